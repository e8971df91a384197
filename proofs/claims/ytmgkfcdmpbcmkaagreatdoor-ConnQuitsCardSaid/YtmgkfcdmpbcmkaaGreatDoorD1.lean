/- A text of the claim: SD1. -/
import Derived.Test.YtmgkfcdmpbcmkaaGreatDoorAmF
import Derived.KernelRfl
import Derived.Test.YtmgkfcdmpbcmkaaGreatDoorProg
namespace Go.Am
open Go.Proofs
set_option maxRecDepth 1000000
set_option linter.unusedVariables false
/- usher/gate.isConfig -/
noncomputable def F116 (C : CallOp) (Lp : LoopOp) (a0 : AV) : AM AV :=
 @AM.bind AV AV (boxA a0) fun v0 =>
 @AM.bind AV AV (faddr 0 v0) fun v1 =>
 @AM.bind AV AV (ld v1) fun v2 =>
 @AM.bind AV AV (faddr 1 v0) fun v3 =>
 @AM.bind AV AV (ld v3) fun v4 =>
 @AM.bind AV AV (faddr 2 v0) fun v5 =>
 @AM.bind AV AV (ld v5) fun v6 =>
 @AM.bind AV AV (bsl [(.int .i64 (.ofNat 0)), (.int .i64 (.ofNat 0)), (.int .i64 (.ofNat 0))] [(0, 1, v2), (1, 1, v4), (2, 1, v6)] 3 1) fun v7 =>
 @AM.bind AV AV (C 166 [(.int .i64 (.ofNat 1)), (.int .i64 (.ofNat 64)), v7]) fun v8 =>
 @AM.bind AV AV (guardA v8 true (faddr 3 v0)) fun v9 =>
 @AM.bind AV AV (guardA v8 true (ld v9)) fun v10 =>
 @AM.bind AV AV (guardA v8 true (bsl [(.int .i64 (.ofNat 0))] [(0, 1, v10)] 1 1)) fun v11 =>
 @AM.bind AV AV (guardA v8 true (C 166 [(.int .i64 (.ofNat 0)), (.int .i64 (.ofNat 4096)), v11])) fun v12 =>
 @AM.bind AV AV (pickA v8 v12 (.bool false)) fun v13 =>
 @AM.bind AV AV (guardA v13 true (faddr 4 v0)) fun v14 =>
 @AM.bind AV AV (guardA v13 true (ld v14)) fun v15 =>
 @AM.bind AV AV (guardA v13 true (faddr 5 v0)) fun v16 =>
 @AM.bind AV AV (guardA v13 true (ld v16)) fun v17 =>
 @AM.bind AV AV (guardA v13 true (faddr 6 v0)) fun v18 =>
 @AM.bind AV AV (guardA v13 true (ld v18)) fun v19 =>
 @AM.bind AV AV (guardA v13 true (faddr 7 v0)) fun v20 =>
 @AM.bind AV AV (guardA v13 true (ld v20)) fun v21 =>
 @AM.bind AV AV (guardA v13 true (faddr 8 v0)) fun v22 =>
 @AM.bind AV AV (guardA v13 true (ld v22)) fun v23 =>
 @AM.bind AV AV (guardA v13 true (bsl [(.int .i64 (.ofNat 0)), (.int .i64 (.ofNat 0)), (.int .i64 (.ofNat 0)), (.int .i64 (.ofNat 0)), (.int .i64 (.ofNat 0))] [(0, 1, v15), (1, 1, v17), (2, 1, v19), (3, 1, v21), (4, 1, v23)] 5 1)) fun v24 =>
 @AM.bind AV AV (guardA v13 true (C 166 [(.int .i64 (.ofNat 1)), (.int .i64 (.ofNat 1073741824)), v24])) fun v25 =>
 @AM.bind AV AV (pickA v13 v25 (.bool false)) fun v26 =>
 @AM.bind AV AV (guardA v26 true (faddr 9 v0)) fun v27 =>
 @AM.bind AV AV (guardA v26 true (ld v27)) fun v28 =>
 @AM.bind AV AV (guardA v26 true (faddr 12 v0)) fun v29 =>
 @AM.bind AV AV (guardA v26 true (ld v29)) fun v30 =>
 @AM.bind AV AV (guardA v26 true (bsl [(.int .i64 (.ofNat 0)), (.int .i64 (.ofNat 0))] [(0, 1, v28), (1, 1, v30)] 2 1)) fun v31 =>
 @AM.bind AV AV (guardA v26 true (C 166 [(.int .i64 (.ofNat 0)), (.int .i64 (.ofNat 1073741824)), v31])) fun v32 =>
 @AM.bind AV AV (pickA v26 v32 (.bool false)) fun v33 =>
 @AM.bind AV AV (guardA v33 true (faddr 10 v0)) fun v34 =>
 @AM.bind AV AV (guardA v33 true (ld v34)) fun v35 =>
 @AM.bind AV AV (guardA v33 true (faddr 11 v0)) fun v36 =>
 @AM.bind AV AV (guardA v33 true (ld v36)) fun v37 =>
 @AM.bind AV AV (guardA v33 true (bsl [(.int .i64 (.ofNat 0)), (.int .i64 (.ofNat 0))] [(0, 1, v35), (1, 1, v37)] 2 1)) fun v38 =>
 @AM.bind AV AV (guardA v33 true (C 166 [(.int .i64 (.ofNat 0)), (.int .i64 (.ofNat 1048576)), v38])) fun v39 =>
 @AM.bind AV AV (pickA v33 v39 (.bool false)) fun v40 =>
 @AM.ret AV v40
/- usher/head.New -/
noncomputable def F117 (C : CallOp) (Lp : LoopOp) : AM AV :=
 @AM.bind AV AV (C 167 [.snil]) fun v0 =>
 @AM.bind AV AV (bld [(.ptr none), (.str []), (.int .i64 (.ofNat 0)), (.str []), (.str []), (.str []), (.int .i64 (.ofNat 0)), (.bool false), (.int .i64 (.ofNat 0)), (.int .i64 (.ofNat 0)), (.int .i64 (.ofNat 0)), (.int .i64 (.ofNat 0)), (.bool false), (.bool false), (.bool false), (.int .i64 (.ofNat 0))] [(0, 1, v0)]) fun v1 =>
 @AM.bind AV AV (boxA v1) fun v2 =>
 @AM.ret AV v2
/- usher/target.Clean -/
noncomputable def F118 (C : CallOp) (Lp : LoopOp) (a0 : AV) : AM AV :=
 @AM.bind AV AV (bn Tryz.prog .eql 9 true a0 (.str [])) fun v0 =>
 @AM.bind AV AV (guardA v0 false (.ret a0)) fun v1 =>
 @AM.bind AV AV (guardA v0 false (sIdx v1 (.int .i64 (.ofNat 0)))) fun v2 =>
 @AM.bind AV AV (guardA v0 false (bn Tryz.prog .neq 5 true v2 (.int .u8 (.ofNat 47)))) fun v3 =>
 @AM.bind AV AV (pickA v0 (.bool true) v3) fun v4 =>
 @bcond AV v4 (
 @AM.ret AV (.tuple ((.str []) :: ((.bool false) :: [])))) (
 @AM.bind AV AV (C 168 [a0, (.str [47])]) fun v5 =>
 @AM.bind AV AV (lenSl v5) fun v6 =>
 @AM.bind Ans AV (Lp (fun l7 =>
 (fun (v8 v9 v10 v11 v12 : AV) =>
 @AM.bind AV Ans (bn Tryz.prog .lss 3 false v12 v6) fun v13 =>
 @bcond Ans v13 (
 @AM.bind AV Ans (iaddrS 1 v5 v12) fun v14 =>
 @AM.bind AV Ans (ld v14) fun v15 =>
 @AM.bind AV Ans (bn Tryz.prog .eql 9 true v15 (.str [])) fun v16 =>
 @AM.bind Ans Ans (@bcond Ans v16 (
 @AM.ret Ans (0, [v16])) (
 @AM.bind AV Ans (bn Tryz.prog .eql 9 true v15 (.str [46])) fun v17 =>
 @AM.ret Ans (0, [v17]))) fun r18 =>
 cond (Nat.beq r18.1 0) (
 (fun (v19 : AV) =>
 @AM.bind Ans Ans (@bcond Ans v19 (
 @AM.ret Ans (0, [v9, v10, v11])) (
 @AM.bind AV Ans (bn Tryz.prog .eql 9 true v15 (.str [46,46])) fun v20 =>
 @bcond Ans v20 (
 @AM.bind AV Ans (lenSl v11) fun v21 =>
 @AM.bind AV Ans (bn Tryz.prog .eql 3 true v21 (.int .i64 (.ofNat 0))) fun v22 =>
 @bcond Ans v22 (
 @AM.ret Ans (1, [(.str []), (.bool false), v11])) (
 @AM.bind AV Ans (lenSl v11) fun v23 =>
 @AM.bind AV Ans (bn Tryz.prog .sub 3 true v23 (.int .i64 (.ofNat 1))) fun v24 =>
 @AM.bind AV Ans (sliceA Tryz.prog 143 v11 none (some v24) none) fun v25 =>
 @AM.ret Ans (0, [v9, v10, v25]))) (
 @AM.bind AV Ans (bsl [(.str [])] [(0, 1, v15)] 1 1) fun v26 =>
 @AM.bind AV Ans (apnd 1 v11 v26) fun v27 =>
 @AM.ret Ans (0, [v9, v10, v27])))) fun r28 =>
 cond (Nat.beq r28.1 0) (
 (fun (v29 v30 v31 : AV) =>
 @AM.bind AV Ans (bn Tryz.prog .add 3 true v12 (.int .i64 (.ofNat 1))) fun v32 =>
 @AM.ret Ans (0, [v15, v29, v30, v31, v32])) (g0 r28.2 0) (g0 r28.2 1) (g0 r28.2 2)) (cond (Nat.beq r28.1 1) (
 (fun (v33 v34 v35 : AV) =>
 @AM.ret Ans (1, [v15, v33, v34, v35, v12])) (g0 r28.2 0) (g0 r28.2 1) (g0 r28.2 2)) (.bad))) (g0 r18.2 0)) (.bad)) (
 @AM.ret Ans (2, [v8, v9, v10, v11, v12]))) (g0 l7 0) (g0 l7 1) (g0 l7 2) (g0 l7 3) (g0 l7 4)) [(.str []), (.str []), (.bool false), .snil, (.int .i64 (.ofNat 0))]) fun r36 =>
 cond (Nat.beq r36.1 2) (
 (fun (v37 v38 v39 v40 v41 : AV) =>
 @AM.bind AV AV (lenSl v40) fun v42 =>
 @AM.bind Ans AV (Lp (fun l43 =>
 (fun (v44 v45 : AV) =>
 @AM.bind AV Ans (bn Tryz.prog .lss 3 false v45 v42) fun v46 =>
 @bcond Ans v46 (
 @AM.bind AV Ans (iaddrS 1 v40 v45) fun v47 =>
 @AM.bind AV Ans (ld v47) fun v48 =>
 @AM.bind AV Ans (bn Tryz.prog .add 9 true (.str [47]) v48) fun v49 =>
 @AM.bind AV Ans (bn Tryz.prog .add 9 false v44 v49) fun v50 =>
 @AM.bind AV Ans (bn Tryz.prog .add 3 true v45 (.int .i64 (.ofNat 1))) fun v51 =>
 @AM.ret Ans (0, [v50, v51])) (
 @AM.ret Ans (5, [v44, v45]))) (g0 l43 0) (g0 l43 1)) [(.str []), (.int .i64 (.ofNat 0))]) fun r52 =>
 cond (Nat.beq r52.1 5) (
 (fun (v53 v54 : AV) =>
 @AM.bind AV AV (bn Tryz.prog .eql 9 true v37 (.str [])) fun v55 =>
 @AM.bind AV AV (guardA v55 false (.ret v37)) fun v56 =>
 @AM.bind AV AV (guardA v55 false (bn Tryz.prog .eql 9 true v56 (.str [46]))) fun v57 =>
 @AM.bind AV AV (pickA v55 (.bool true) v57) fun v58 =>
 @AM.bind AV AV (guardA v58 false (.ret v37)) fun v59 =>
 @AM.bind AV AV (guardA v58 false (bn Tryz.prog .eql 9 true v59 (.str [46,46]))) fun v60 =>
 @AM.bind AV AV (pickA v58 (.bool true) v60) fun v61 =>
 @AM.bind AV AV (guardA v61 false (.ret v53)) fun v62 =>
 @AM.bind AV AV (guardA v61 false (bn Tryz.prog .eql 9 true v62 (.str []))) fun v63 =>
 @AM.bind AV AV (pickA v61 (.bool true) v63) fun v64 =>
 @AM.bind Ans AV (@bcond Ans v64 (
 @AM.bind AV Ans (bn Tryz.prog .add 9 true v53 (.str [47])) fun v65 =>
 @AM.ret Ans (0, [v65])) (
 @AM.ret Ans (0, [v53]))) fun r66 =>
 cond (Nat.beq r66.1 0) (
 (fun (v67 : AV) =>
 @AM.ret AV (.tuple (v67 :: ((.bool true) :: [])))) (g0 r66.2 0)) (.bad)) (g0 r52.2 0) (g0 r52.2 1)) (.bad)) (g0 r36.2 0) (g0 r36.2 1) (g0 r36.2 2) (g0 r36.2 3) (g0 r36.2 4)) (cond (Nat.beq r36.1 1) (
 (fun (v68 v69 v70 v71 v72 : AV) =>
 @AM.ret AV (.tuple (v69 :: (v70 :: [])))) (g0 r36.2 0) (g0 r36.2 1) (g0 r36.2 2) (g0 r36.2 3) (g0 r36.2 4)) (.bad)))
/- strings.HasSuffix -/
noncomputable def F119 (C : CallOp) (Lp : LoopOp) (a0 a1 : AV) : AM AV :=
 @AM.bind AV AV (C 169 [a0, a1]) fun v0 =>
 @AM.ret AV v0
/- usher/ascii.IsValue -/
noncomputable def F120 (C : CallOp) (Lp : LoopOp) (a0 : AV) : AM AV :=
 @AM.bind AV AV (C 170 [a0, (.func (.func 171) [] [])]) fun v0 =>
 @AM.ret AV v0
/- usher/ascii.Trim -/
noncomputable def F121 (C : CallOp) (Lp : LoopOp) (a0 : AV) : AM AV :=
 @AM.bind AV AV (C 172 [a0, (.str [9,32])]) fun v0 =>
 @AM.ret AV v0
/- strings.CutSuffix -/
noncomputable def F122 (C : CallOp) (Lp : LoopOp) (a0 a1 : AV) : AM AV :=
 @AM.bind AV AV (C 173 [a0, a1]) fun v0 =>
 @AM.bind AV AV (extA v0 0) fun v1 =>
 @AM.bind AV AV (extA v0 1) fun v2 =>
 @AM.ret AV (.tuple (v1 :: (v2 :: [])))
/- slices.ContainsFunc[[]string,string] -/
noncomputable def F123 (C : CallOp) (Lp : LoopOp) (a0 a1 : AV) : AM AV :=
 @AM.bind AV AV (C 174 [a0, a1]) fun v0 =>
 @AM.bind AV AV (bn Tryz.prog .geq 3 true v0 (.int .i64 (.ofNat 0))) fun v1 =>
 @AM.ret AV v1
/- (*usher/route.Router).Add$1 -/
noncomputable def F124 (C : CallOp) (Lp : LoopOp) (a0 : AV) : AM AV :=
 @AM.bind AV AV (C 125 [a0]) fun v0 =>
 @AM.bind AV AV (un .not v0) fun v1 =>
 @AM.ret AV v1
/- usher/ascii.IsToken -/
noncomputable def F125 (C : CallOp) (Lp : LoopOp) (a0 : AV) : AM AV :=
 @AM.bind AV AV (bn Tryz.prog .neq 9 true a0 (.str [])) fun v0 =>
 @AM.bind AV AV (guardA v0 true (.ret a0)) fun v1 =>
 @AM.bind AV AV (guardA v0 true (C 170 [v1, (.func (.func 175) [] [])])) fun v2 =>
 @AM.bind AV AV (pickA v0 v2 (.bool false)) fun v3 =>
 @AM.ret AV v3
/- slices.Contains[[]string,string] -/
noncomputable def F127 (C : CallOp) (Lp : LoopOp) (a0 a1 : AV) : AM AV :=
 @AM.bind AV AV (C 178 [a0, a1]) fun v0 =>
 @AM.bind AV AV (bn Tryz.prog .geq 3 true v0 (.int .i64 (.ofNat 0))) fun v1 =>
 @AM.ret AV v1
/- slices.Clone[[]string,string] -/
noncomputable def F128 (C : CallOp) (Lp : LoopOp) (a0 : AV) : AM AV :=
 @AM.bind AV AV (bn Tryz.prog .eql 143 true a0 .snil) fun v0 =>
 @bcond AV v0 (
 @AM.ret AV .snil) (
 @AM.bind AV AV (AM.ret .szero) fun v1 =>
 @AM.bind AV AV (apnd 1 v1 a0) fun v2 =>
 @AM.ret AV v2)
/- usher/usherref11.Clean -/
noncomputable def F129 (C : CallOp) (Lp : LoopOp) (a0 : AV) : AM AV :=
 @AM.bind AV AV (bn Tryz.prog .eql 9 true a0 (.str [])) fun v0 =>
 @AM.bind AV AV (guardA v0 false (.ret a0)) fun v1 =>
 @AM.bind AV AV (guardA v0 false (sIdx v1 (.int .i64 (.ofNat 0)))) fun v2 =>
 @AM.bind AV AV (guardA v0 false (bn Tryz.prog .neq 5 true v2 (.int .u8 (.ofNat 47)))) fun v3 =>
 @AM.bind AV AV (pickA v0 (.bool true) v3) fun v4 =>
 @bcond AV v4 (
 @AM.ret AV (.tuple ((.str []) :: ((.bool false) :: [])))) (
 @AM.bind AV AV (sliceA Tryz.prog 9 a0 (some (.int .i64 (.ofNat 1))) none none) fun v5 =>
 @AM.bind AV AV (bn Tryz.prog .add 9 true v5 (.str [47])) fun v6 =>
 @AM.bind Ans AV (Lp (fun l7 =>
 (fun (v8 v9 v10 v11 v12 v13 : AV) =>
 @AM.bind AV Ans (lenStr v6) fun v14 =>
 @AM.bind AV Ans (bn Tryz.prog .lss 3 false v13 v14) fun v15 =>
 @bcond Ans v15 (
 @AM.bind AV Ans (sIdx v6 v13) fun v16 =>
 @AM.bind AV Ans (bn Tryz.prog .neq 5 true v16 (.int .u8 (.ofNat 47))) fun v17 =>
 @bcond Ans v17 (
 @AM.bind AV Ans (bn Tryz.prog .add 3 true v13 (.int .i64 (.ofNat 1))) fun v18 =>
 @AM.ret Ans (0, [v8, v9, v10, v11, v12, v18])) (
 @AM.bind AV Ans (sliceA Tryz.prog 9 v6 (some v9) (some v13) none) fun v19 =>
 @AM.bind AV Ans (bn Tryz.prog .add 3 true v13 (.int .i64 (.ofNat 1))) fun v20 =>
 @AM.bind AV Ans (bn Tryz.prog .eql 9 true v19 (.str [])) fun v21 =>
 @AM.bind Ans Ans (@bcond Ans v21 (
 @AM.ret Ans (0, [v21])) (
 @AM.bind AV Ans (bn Tryz.prog .eql 9 true v19 (.str [46])) fun v22 =>
 @AM.ret Ans (0, [v22]))) fun r23 =>
 cond (Nat.beq r23.1 0) (
 (fun (v24 : AV) =>
 @AM.bind Ans Ans (@bcond Ans v24 (
 @AM.ret Ans (0, [v10, v11, v12])) (
 @AM.bind AV Ans (bn Tryz.prog .eql 9 true v19 (.str [46,46])) fun v25 =>
 @bcond Ans v25 (
 @AM.bind AV Ans (lenSl v12) fun v26 =>
 @AM.bind AV Ans (bn Tryz.prog .eql 3 true v26 (.int .i64 (.ofNat 0))) fun v27 =>
 @bcond Ans v27 (
 @AM.ret Ans (1, [(.str []), (.bool false), v12])) (
 @AM.bind AV Ans (lenSl v12) fun v28 =>
 @AM.bind AV Ans (bn Tryz.prog .sub 3 true v28 (.int .i64 (.ofNat 1))) fun v29 =>
 @AM.bind AV Ans (sliceA Tryz.prog 143 v12 none (some v29) none) fun v30 =>
 @AM.ret Ans (0, [v10, v11, v30]))) (
 @AM.bind AV Ans (AM.ret .szero) fun v31 =>
 @AM.bind AV Ans (apnd 1 v31 v12) fun v32 =>
 @AM.bind AV Ans (bsl [(.str [])] [(0, 1, v19)] 1 1) fun v33 =>
 @AM.bind AV Ans (apnd 1 v32 v33) fun v34 =>
 @AM.ret Ans (0, [v10, v11, v34])))) fun r35 =>
 cond (Nat.beq r35.1 0) (
 (fun (v36 v37 v38 : AV) =>
 @AM.bind AV Ans (bn Tryz.prog .add 3 true v13 (.int .i64 (.ofNat 1))) fun v39 =>
 @AM.ret Ans (0, [v19, v20, v36, v37, v38, v39])) (g0 r35.2 0) (g0 r35.2 1) (g0 r35.2 2)) (cond (Nat.beq r35.1 1) (
 (fun (v40 v41 v42 : AV) =>
 @AM.ret Ans (1, [v19, v20, v40, v41, v42, v13])) (g0 r35.2 0) (g0 r35.2 1) (g0 r35.2 2)) (.bad))) (g0 r23.2 0)) (.bad))) (
 @AM.ret Ans (2, [v8, v9, v10, v11, v12, v13]))) (g0 l7 0) (g0 l7 1) (g0 l7 2) (g0 l7 3) (g0 l7 4) (g0 l7 5)) [(.str []), (.int .i64 (.ofNat 0)), (.str []), (.bool false), .snil, (.int .i64 (.ofNat 0))]) fun r43 =>
 cond (Nat.beq r43.1 2) (
 (fun (v44 v45 v46 v47 v48 v49 : AV) =>
 @AM.bind Ans AV (Lp (fun l50 =>
 (fun (v51 v52 : AV) =>
 @AM.bind AV Ans (lenSl v48) fun v53 =>
 @AM.bind AV Ans (bn Tryz.prog .lss 3 false v52 v53) fun v54 =>
 @bcond Ans v54 (
 @AM.bind AV Ans (bn Tryz.prog .add 9 true v51 (.str [47])) fun v55 =>
 @AM.bind AV Ans (iaddrS 1 v48 v52) fun v56 =>
 @AM.bind AV Ans (ld v56) fun v57 =>
 @AM.bind AV Ans (bn Tryz.prog .add 9 false v55 v57) fun v58 =>
 @AM.bind AV Ans (bn Tryz.prog .add 3 true v52 (.int .i64 (.ofNat 1))) fun v59 =>
 @AM.ret Ans (0, [v58, v59])) (
 @AM.ret Ans (5, [v51, v52]))) (g0 l50 0) (g0 l50 1)) [(.str []), (.int .i64 (.ofNat 0))]) fun r60 =>
 cond (Nat.beq r60.1 5) (
 (fun (v61 v62 : AV) =>
 @AM.bind AV AV (bn Tryz.prog .eql 9 true v61 (.str [])) fun v63 =>
 @AM.bind AV AV (guardA v63 false (.ret v44)) fun v64 =>
 @AM.bind AV AV (guardA v63 false (bn Tryz.prog .eql 9 true v64 (.str []))) fun v65 =>
 @AM.bind AV AV (pickA v63 (.bool true) v65) fun v66 =>
 @AM.bind AV AV (guardA v66 false (.ret v44)) fun v67 =>
 @AM.bind AV AV (guardA v66 false (bn Tryz.prog .eql 9 true v67 (.str [46]))) fun v68 =>
 @AM.bind AV AV (pickA v66 (.bool true) v68) fun v69 =>
 @AM.bind AV AV (guardA v69 false (.ret v44)) fun v70 =>
 @AM.bind AV AV (guardA v69 false (bn Tryz.prog .eql 9 true v70 (.str [46,46]))) fun v71 =>
 @AM.bind AV AV (pickA v69 (.bool true) v71) fun v72 =>
 @AM.bind Ans AV (@bcond Ans v72 (
 @AM.bind AV Ans (bn Tryz.prog .add 9 true v61 (.str [47])) fun v73 =>
 @AM.ret Ans (0, [v73])) (
 @AM.ret Ans (0, [v61]))) fun r74 =>
 cond (Nat.beq r74.1 0) (
 (fun (v75 : AV) =>
 @AM.ret AV (.tuple (v75 :: ((.bool true) :: [])))) (g0 r74.2 0)) (.bad)) (g0 r60.2 0) (g0 r60.2 1)) (.bad)) (g0 r43.2 0) (g0 r43.2 1) (g0 r43.2 2) (g0 r43.2 3) (g0 r43.2 4) (g0 r43.2 5)) (cond (Nat.beq r43.1 1) (
 (fun (v76 v77 v78 v79 v80 v81 : AV) =>
 @AM.ret AV (.tuple (v78 :: (v79 :: [])))) (g0 r43.2 0) (g0 r43.2 1) (g0 r43.2 2) (g0 r43.2 3) (g0 r43.2 4) (g0 r43.2 5)) (.bad)))
/- usher/usherref19.wide -/
noncomputable def F130 (C : CallOp) (Lp : LoopOp) (a0 : AV) : AM AV :=
 @AM.bind AV AV (lenStr a0) fun v0 =>
 @AM.bind AV AV (bn Tryz.prog .geq 3 true v0 (.int .i64 (.ofNat 2))) fun v1 =>
 @AM.bind AV AV (guardA v1 true (.ret a0)) fun v2 =>
 @AM.bind AV AV (guardA v1 true (.ret a0)) fun v3 =>
 @AM.bind AV AV (guardA v1 true (lenStr v3)) fun v4 =>
 @AM.bind AV AV (guardA v1 true (bn Tryz.prog .sub 3 true v4 (.int .i64 (.ofNat 2)))) fun v5 =>
 @AM.bind AV AV (guardA v1 true (sliceA Tryz.prog 9 v2 (some v5) none none)) fun v6 =>
 @AM.bind AV AV (guardA v1 true (bn Tryz.prog .eql 9 true v6 (.str [47,42]))) fun v7 =>
 @AM.bind AV AV (pickA v1 v7 (.bool false)) fun v8 =>
 @AM.ret AV v8
/- usher/usherref1.ValueByte -/
noncomputable def F131 (C : CallOp) (Lp : LoopOp) (a0 : AV) : AM AV :=
 @AM.bind AV AV (bn Tryz.prog .eql 5 true a0 (.int .u8 (.ofNat 9))) fun v0 =>
 @AM.bind AV AV (guardA v0 false (.ret a0)) fun v1 =>
 @AM.bind AV AV (guardA v0 false (bn Tryz.prog .geq 5 true v1 (.int .u8 (.ofNat 32)))) fun v2 =>
 @AM.bind AV AV (guardA v0 false (.ret v2)) fun v3 =>
 @AM.bind AV AV (guardA v3 true (.ret a0)) fun v4 =>
 @AM.bind AV AV (guardA v3 true (bn Tryz.prog .neq 5 true v4 (.int .u8 (.ofNat 127)))) fun v5 =>
 @AM.bind AV AV (guardA v0 false (pickA v3 v5 (.bool false))) fun v6 =>
 @AM.bind AV AV (pickA v0 (.bool true) v6) fun v7 =>
 @AM.ret AV v7
/- usher/usherref19.pattern -/
noncomputable def F132 (C : CallOp) (Lp : LoopOp) (a0 : AV) : AM AV :=
 @AM.bind AV AV (C 130 [a0]) fun v0 =>
 @AM.bind AV AV (guardA v0 true (.ret a0)) fun v1 =>
 @AM.bind AV AV (guardA v0 true (lenStr v1)) fun v2 =>
 @AM.bind AV AV (guardA v0 true (bn Tryz.prog .leq 3 true v2 (.int .i64 (.ofNat 201)))) fun v3 =>
 @AM.bind AV AV (pickA v0 v3 (.bool false)) fun v4 =>
 @bcond AV v4 (
 @AM.bind AV AV (lenStr a0) fun v5 =>
 @AM.bind AV AV (bn Tryz.prog .sub 3 true v5 (.int .i64 (.ofNat 1))) fun v6 =>
 @AM.bind AV AV (sliceA Tryz.prog 9 a0 none (some v6) none) fun v7 =>
 @AM.bind AV AV (C 89 [v7]) fun v8 =>
 @AM.ret AV v8) (
 @AM.bind AV AV (C 89 [a0]) fun v9 =>
 @AM.ret AV v9)
/- usher/usherref1.IsToken -/
noncomputable def F133 (C : CallOp) (Lp : LoopOp) (a0 : AV) : AM AV :=
 @AM.bind Ans AV (Lp (fun l0 =>
 (fun (v1 v2 : AV) =>
 @AM.bind AV Ans (lenStr a0) fun v3 =>
 @AM.bind AV Ans (bn Tryz.prog .lss 3 false v2 v3) fun v4 =>
 @bcond Ans v4 (
 @AM.bind AV Ans (sIdx a0 v2) fun v5 =>
 @AM.bind AV Ans (C 179 [v5]) fun v6 =>
 @AM.bind AV Ans (un .not v6) fun v7 =>
 @bcond Ans v7 (
 @AM.ret Ans (1, [(.bool false), v2])) (
 @AM.bind AV Ans (bn Tryz.prog .add 3 true v2 (.int .i64 (.ofNat 1))) fun v8 =>
 @AM.ret Ans (0, [v1, v8]))) (
 @AM.ret Ans (2, [v1, v2]))) (g0 l0 0) (g0 l0 1)) [(.bool false), (.int .i64 (.ofNat 0))]) fun r9 =>
 cond (Nat.beq r9.1 2) (
 (fun (v10 v11 : AV) =>
 @AM.bind AV AV (lenStr a0) fun v12 =>
 @AM.bind AV AV (bn Tryz.prog .gtr 3 true v12 (.int .i64 (.ofNat 0))) fun v13 =>
 @AM.ret AV v13) (g0 r9.2 0) (g0 r9.2 1)) (cond (Nat.beq r9.1 1) (
 (fun (v14 v15 : AV) =>
 @AM.ret AV v14) (g0 r9.2 0) (g0 r9.2 1)) (.bad))
/- usher/usherref21.within -/
noncomputable def F135 (C : CallOp) (Lp : LoopOp) (a0 a1 a2 : AV) : AM AV :=
 @AM.bind AV AV (bn Tryz.prog .geq 3 false a0 a1) fun v0 =>
 @AM.bind AV AV (guardA v0 true (.ret a0)) fun v1 =>
 @AM.bind AV AV (guardA v0 true (.ret a2)) fun v2 =>
 @AM.bind AV AV (guardA v0 true (bn Tryz.prog .leq 3 false v1 v2)) fun v3 =>
 @AM.bind AV AV (pickA v0 v3 (.bool false)) fun v4 =>
 @AM.ret AV v4
/- (*usher/conn.Conn).feeds -/
noncomputable def F136 (C : CallOp) (Lp : LoopOp) (a0 : AV) : AM AV :=
 @bindP AV AV false (nilC a0) fun v0 =>
 @bindP AV AV false (faddr 25 v0) fun v1 =>
 @bindP AV AV false (ld v1) fun v2 =>
 @bindP AV AV false (un .not v2) fun v3 =>
 @bindP AV AV false (guardA v3 true (.ret a0)) fun v4 =>
 @bindP AV AV false (guardA v3 true (nilC v4)) fun v5 =>
 @bindP AV AV false (guardA v3 true (faddr 19 v5)) fun v6 =>
 @bindP AV AV false (guardA v3 true (ld v6)) fun v7 =>
 @heavyA true (guardA v3 true (C 97 [v7])) AV fun v8 =>
 @bindP AV AV false (guardA v3 true (bn Tryz.prog .lss 3 true v8 (.int .i64 (.ofNat 3)))) fun v9 =>
 @bindP AV AV false (pickA v3 v9 (.bool false)) fun v10 =>
 @bindP AV AV false (guardA v10 true (.ret a0)) fun v11 =>
 @bindP AV AV false (guardA v10 true (nilC v11)) fun v12 =>
 @bindP AV AV false (guardA v10 true (faddr 0 v12)) fun v13 =>
 @bindP AV AV false (guardA v10 true (ld v13)) fun v14 =>
 fun h16 => @bindP AV AV false (guardA v10 true (C 31 [v14])) (fun v15 h17 => cond (Nat.ble h16.next h17.next && true) ((
 @bindP AV AV false (guardA v10 true (lenSl v15)) fun v18 =>
 @bindP AV AV false (guardA v10 true (.ret a0)) fun v19 =>
 @bindP AV AV false (guardA v10 true (nilC v19)) fun v20 =>
 @bindP AV AV false (guardA v10 true (faddr 1 v20)) fun v21 =>
 @bindP AV AV false (guardA v10 true (faddr 2 v21)) fun v22 =>
 fun h24 => @bindP AV AV false (guardA v10 true (ld v22)) (fun v23 h25 => cond ((AV.under h16.next v22 && (AV.under h16.next v10 && true)) && (sameS (guardA v10 true (ld v22)) v23 h16 && true)) ((
 @bindP AV AV false (guardA v10 true (bn Tryz.prog .lss 3 false v18 v23)) fun v26 =>
 @bindP AV AV false (pickA v10 v26 (.bool false)) fun v27 =>
 @bindP AV AV false (guardA v27 true (.ret a0)) fun v28 =>
 @bindP AV AV false (guardA v27 true (nilC v28)) fun v29 =>
 @bindP AV AV false (guardA v27 true (faddr 18 v29)) fun v30 =>
 @bindP AV AV false (guardA v27 true (ld v30)) fun v31 =>
 @heavyA true (guardA v27 true (C 98 [v31])) AV fun v32 =>
 @bindP AV AV false (guardA v27 true (bn Tryz.prog .gtr 3 true v32 (.int .i64 (.ofNat 0)))) fun v33 =>
 @bindP AV AV false (pickA v27 v33 (.bool false)) fun v34 =>
 @AM.ret AV v34) h25) .bad) h24) h17) .bad) h16
/- (*usher/ring.Ring).Skip -/
noncomputable def F137 (C : CallOp) (Lp : LoopOp) (a0 a1 : AV) : AM AV :=
 @AM.bind AV AV (C 98 [a0]) fun v0 =>
 @AM.bind AV AV (ofOpt (minA a1 [v0])) fun v1 =>
 @AM.bind AV AV (ofOpt (maxA (.int .i64 (.ofNat 0)) [v1])) fun v2 =>
 @AM.bind AV AV (bn Tryz.prog .gtr 3 true v2 (.int .i64 (.ofNat 0))) fun v3 =>
 @AM.bind Ans AV (@bcond Ans v3 (
 fun h5 => @bindP AV Ans false (C 95 [a0, v2]) (fun v4 h6 => cond (Nat.ble h5.next h6.next && true) ((
 @bindP AV Ans false (nilC a0) fun v7 =>
 @bindP AV Ans false (faddr 2 v7) fun v8 =>
 fun h10 => @bindP AV Ans false (ld v8) (fun v9 h11 => cond ((AV.under h5.next v8 && true) && (sameS (ld v8) v9 h5 && true)) ((
 @bindP AV Ans false (bn Tryz.prog .sub 3 false v9 v2) fun v12 =>
 @bindP AV Ans false (nilC a0) fun v13 =>
 @bindP AV Ans false (faddr 1 v13) fun v14 =>
 @heavyA true (unit2 (st v14 v4)) Ans fun _ =>
 @bindP AV Ans false (nilC a0) fun v15 =>
 @bindP AV Ans false (faddr 2 v15) fun v16 =>
 @heavyA true (unit2 (st v16 v12)) Ans fun _ =>
 @AM.ret Ans (0, [])) h11) .bad) h10) h6) .bad) h5) (
 @AM.ret Ans (0, []))) fun r17 =>
 cond (Nat.beq r17.1 0) (
 @AM.ret AV v2) (.bad)
/- (*usher/parse.Parser).Feed -/
noncomputable def F138 (C : CallOp) (Lp : LoopOp) (a0 a1 : AV) : AM AV :=
 @AM.bind AV AV (bn Tryz.prog .eql 41 true a0 (.ptr none)) fun v0 =>
 @bcond AV v0 (
 @AM.ret AV (.int .i64 (.ofNat 0))) (
 @AM.bind AV AV (lenSl a1) fun v1 =>
 @AM.bind Ans AV (Lp (fun l2 =>
 (fun (v3 v4 : AV) =>
 @AM.bind AV Ans (bn Tryz.prog .lss 3 false v4 v1) fun v5 =>
 @bcond Ans v5 (
 @AM.bind AV Ans (iaddrS 1 a1 v4) fun v6 =>
 @AM.bind AV Ans (ld v6) fun v7 =>
 @AM.bind Ans Ans (Lp (fun l8 =>
 (fun (v9 v10 : AV) =>
 @AM.bind AV Ans (lenSl v9) fun v11 =>
 @AM.bind AV Ans (bn Tryz.prog .gtr 3 true v11 (.int .i64 (.ofNat 0))) fun v12 =>
 @AM.bind AV Ans (guardA v12 true (.ret a0)) fun v13 =>
 @AM.bind AV Ans (guardA v12 true (nilC v13)) fun v14 =>
 @AM.bind AV Ans (guardA v12 true (faddr 0 v14)) fun v15 =>
 @AM.bind AV Ans (guardA v12 true (ld v15)) fun v16 =>
 @AM.bind AV Ans (guardA v12 true (bn Tryz.prog .lss 3 true v16 (.int .i64 (.ofNat 3)))) fun v17 =>
 @AM.bind AV Ans (pickA v12 v17 (.bool false)) fun v18 =>
 @bcond Ans v18 (
 @AM.bind AV Ans (C 180 [a0, v9]) fun v19 =>
 @AM.bind AV Ans (sliceA Tryz.prog 22 v9 (some v19) none none) fun v20 =>
 @AM.bind AV Ans (bn Tryz.prog .add 3 false v10 v19) fun v21 =>
 @AM.ret Ans (0, [v20, v21])) (
 @AM.ret Ans (4, [v9, v10]))) (g0 l8 0) (g0 l8 1)) [v7, v3]) fun r22 =>
 cond (Nat.beq r22.1 4) (
 (fun (v23 v24 : AV) =>
 @AM.bind AV Ans (bn Tryz.prog .add 3 true v4 (.int .i64 (.ofNat 1))) fun v25 =>
 @AM.ret Ans (0, [v24, v25])) (g0 r22.2 0) (g0 r22.2 1)) (.bad)) (
 @AM.ret Ans (2, [v3, v4]))) (g0 l2 0) (g0 l2 1)) [(.int .i64 (.ofNat 0)), (.int .i64 (.ofNat 0))]) fun r26 =>
 cond (Nat.beq r26.1 2) (
 (fun (v27 v28 : AV) =>
 @AM.ret AV v27) (g0 r26.2 0) (g0 r26.2 1)) (.bad))
/- (*usher/ring.Ring).Peek -/
noncomputable def F139 (C : CallOp) (Lp : LoopOp) (a0 a1 : AV) : AM AV :=
 @AM.bind AV AV (C 98 [a0]) fun v0 =>
 @AM.bind AV AV (ofOpt (minA a1 [v0])) fun v1 =>
 @AM.bind Ans AV (Lp (fun l2 =>
 (fun (v3 v4 : AV) =>
 @AM.bind AV Ans (bn Tryz.prog .lss 3 false v4 v1) fun v5 =>
 @bcond Ans v5 (
 @bindP AV Ans false (nilC a0) fun v6 =>
 @bindP AV Ans false (faddr 0 v6) fun v7 =>
 fun h9 => @bindP AV Ans false (ld v7) (fun v8 =>
 fun h12 => @bindP AV Ans true (C 95 [a0, v4]) (fun v11 h13 => cond (Nat.ble h12.next h13.next && (AV.under h9.next v8 && (sameS (ld v7) v8 h13 && true))) ((
 @bindP AV Ans false (iaddrS 1 v8 v11) fun v14 =>
 @bindP AV Ans false (ld v14) fun v15 =>
 @bindP AV Ans false (bsl [(.int .u8 (.ofNat 0))] [(0, 1, v15)] 1 1) fun v16 =>
 @heavyA true (apnd 1 v3 v16) Ans fun v17 =>
 @AM.bind AV Ans (bn Tryz.prog .add 3 true v4 (.int .i64 (.ofNat 1))) fun v18 =>
 @AM.ret Ans (0, [v17, v18])) h13) .bad) h12) h9) (
 @AM.ret Ans (2, [v3, v4]))) (g0 l2 0) (g0 l2 1)) [.snil, (.int .i64 (.ofNat 0))]) fun r19 =>
 cond (Nat.beq r19.1 2) (
 (fun (v20 v21 : AV) =>
 @AM.ret AV v20) (g0 r19.2 0) (g0 r19.2 1)) (.bad)
/- (*usher/parse.Parser).Take -/
noncomputable def F140 (C : CallOp) (Lp : LoopOp) (a0 : AV) : AM AV :=
 @AM.bind AV AV (nw [(.str []), (.int .i64 (.ofNat 0)), (.str []), (.str []), (.str []), (.int .i64 (.ofNat 0)), .snil, .snil, (.bool false), (.bool false)]) fun v0 =>
 @AM.bind AV AV (bn Tryz.prog .eql 41 true a0 (.ptr none)) fun v1 =>
 @AM.bind AV AV (guardA v1 false (.ret a0)) fun v2 =>
 @AM.bind AV AV (guardA v1 false (nilC v2)) fun v3 =>
 @AM.bind AV AV (guardA v1 false (faddr 0 v3)) fun v4 =>
 @AM.bind AV AV (guardA v1 false (ld v4)) fun v5 =>
 @AM.bind AV AV (guardA v1 false (bn Tryz.prog .neq 3 true v5 (.int .i64 (.ofNat 3)))) fun v6 =>
 @AM.bind AV AV (pickA v1 (.bool true) v6) fun v7 =>
 @bcond AV v7 (
 @AM.bind AV AV (bld [(.str []), (.int .i64 (.ofNat 0)), (.str []), (.str []), (.str []), (.int .i64 (.ofNat 0)), .snil, .snil, (.bool false), (.bool false)] []) fun v8 =>
 @AM.bind AV AV (unit2 (stN 10 v0 v8)) fun _ =>
 @AM.bind (List AV) AV (@AM.bind AV (List AV) (ldN 10 v0) fun w9 => @AM.ret (List AV) (w9 :: ((.int .i64 (.ofNat 4)) :: []))) fun w10 => @AM.ret AV (.tuple w10)) (
 @AM.bind AV AV (nilC a0) fun v11 =>
 @AM.bind AV AV (faddr 3 v11) fun v12 =>
 @AM.bind AV AV (ld v12) fun v13 =>
 @AM.bind AV AV (C 181 [v13]) fun v14 =>
 @AM.bind AV AV (nw [(.int .i64 (.ofNat 0)), (.int .i64 (.ofNat 0)), (.bool false), (.bool false)]) fun v15 =>
 @AM.bind AV AV (unit2 (stN 4 v15 v14)) fun _ =>
 @bindP AV AV false (nilC a0) fun v16 =>
 @bindP AV AV false (faddr 3 v16) fun v17 =>
 @bindP AV AV false (ld v17) fun v18 =>
 @bindP AV AV false (nilC v18) fun v19 =>
 @bindP AV AV false (faddr 0 v19) fun v20 =>
 @bindP AV AV false (ld v20) fun v21 =>
 fun h23 => @bindP AV AV false (C 182 [v21]) (fun v22 h24 => cond (Nat.ble h23.next h24.next && true) ((
 @bindP AV AV false (nilC a0) fun v25 =>
 @bindP AV AV false (faddr 5 v25) fun v26 =>
 fun h28 => @bindP AV AV false (ld v26) (fun v27 h29 => cond ((AV.under h23.next v26 && true) && (sameS (ld v26) v27 h23 && true)) ((
 @bindP AV AV false (faddr 2 v15) fun v30 =>
 fun h32 => @bindP AV AV false (ld v30) (fun v31 h33 => cond ((AV.under h23.next v30 && true) && (sameS (ld v30) v31 h23 && true)) ((
 @bindP AV AV false (faddr 3 v15) fun v34 =>
 fun h36 => @bindP AV AV false (ld v34) (fun v35 h37 => cond ((AV.under h23.next v34 && true) && (sameS (ld v34) v35 h23 && true)) ((
 @bindP AV AV false (bld [(.str []), (.int .i64 (.ofNat 0)), (.str []), (.str []), (.str []), (.int .i64 (.ofNat 0)), .snil, .snil, (.bool false), (.bool false)] [(6, 1, v22), (7, 1, v27), (8, 1, v31), (9, 1, v35)]) fun v38 =>
 @bindP AV AV false (nw [(.str []), (.int .i64 (.ofNat 0)), (.str []), (.str []), (.str []), (.int .i64 (.ofNat 0)), .snil, .snil, (.bool false), (.bool false)]) fun v39 =>
 @heavyA true (unit2 (stN 10 v39 v38)) AV fun _ =>
 @AM.bind AV AV (nilC a0) fun v40 =>
 @AM.bind AV AV (faddr 3 v40) fun v41 =>
 @AM.bind AV AV (ld v41) fun v42 =>
 @AM.bind AV AV (C 183 [v42]) fun v43 =>
 @AM.bind AV AV (extA v43 0) fun v44 =>
 @AM.bind AV AV (extA v43 1) fun v45 =>
 @AM.bind AV AV (extA v43 2) fun v46 =>
 @AM.bind AV AV (faddr 0 v39) fun v47 =>
 @AM.bind AV AV (unit2 (st v47 v44)) fun _ =>
 @AM.bind AV AV (faddr 1 v39) fun v48 =>
 @AM.bind AV AV (unit2 (stN 4 v48 v45)) fun _ =>
 @AM.bind AV AV (faddr 5 v39) fun v49 =>
 @AM.bind AV AV (unit2 (st v49 v46)) fun _ =>
 @AM.bind AV AV (C 84 []) fun v50 =>
 @AM.bind AV AV (nilC v50) fun v51 =>
 @AM.bind AV AV (ldN 8 v51) fun v52 =>
 @AM.bind AV AV (nilC a0) fun v53 =>
 @AM.bind AV AV (unit2 (stN 8 v53 v52)) fun _ =>
 @AM.bind AV AV (ldN 10 v39) fun v54 =>
 @AM.bind AV AV (unit2 (stN 10 v0 v54)) fun _ =>
 @AM.bind (List AV) AV (@AM.bind AV (List AV) (ldN 10 v0) fun w55 => @AM.ret (List AV) (w55 :: ((.int .i64 (.ofNat 0)) :: []))) fun w56 => @AM.ret AV (.tuple w56)) h37) .bad) h36) h33) .bad) h32) h29) .bad) h28) h24) .bad) h23)
/- (*usher/site.Site).Serve -/
noncomputable def F141 (C : CallOp) (Lp : LoopOp) (a0 a1 : AV) : AM AV :=
 @AM.bind AV AV (boxA a1) fun v0 =>
 @AM.bind AV AV (nw [(.int .i64 (.ofNat 0)), .snil, .snil, .snil]) fun v1 =>
 @AM.bind AV AV (bn Tryz.prog .eql 39 true a0 (.ptr none)) fun v2 =>
 @bcond AV v2 (
 @AM.bind AV AV (C 81 [(.int .i64 (.ofNat 404)), .snil]) fun v3 =>
 @AM.bind AV AV (unit2 (stN 4 v1 v3)) fun _ =>
 ldN 4 v1) (
 @AM.bind AV AV (bsl [(.str []), (.str []), (.str []), (.str [])] [(0, 1, (.str [71,69,84])), (1, 1, (.str [72,69,65,68])), (2, 1, (.str [79,80,84,73,79,78,83])), (3, 1, (.str [80,79,83,84]))] 4 1) fun v4 =>
 @AM.bind AV AV (faddr 1 v0) fun v5 =>
 @AM.bind AV AV (faddr 0 v5) fun v6 =>
 @AM.bind AV AV (ld v6) fun v7 =>
 @AM.bind AV AV (bn Tryz.prog .eql 3 true v7 (.int .i64 (.ofNat 4))) fun v8 =>
 @bcond AV v8 (
 @AM.bind AV AV (C 184 [(.int .i64 (.ofNat 204)), v4]) fun v9 =>
 @AM.bind AV AV (unit2 (stN 4 v1 v9)) fun _ =>
 ldN 4 v1) (
 @AM.bind AV AV (faddr 1 v0) fun v10 =>
 @AM.bind AV AV (faddr 0 v10) fun v11 =>
 @AM.bind AV AV (ld v11) fun v12 =>
 @AM.bind AV AV (bn Tryz.prog .eql 3 true v12 (.int .i64 (.ofNat 3))) fun v13 =>
 @AM.bind AV AV (guardA v13 false (.ret v4)) fun v14 =>
 @AM.bind AV AV (guardA v13 false (faddr 0 v0)) fun v15 =>
 @AM.bind AV AV (guardA v13 false (ld v15)) fun v16 =>
 @AM.bind AV AV (guardA v13 false (C 127 [v14, v16])) fun v17 =>
 @AM.bind AV AV (guardA v13 false (un .not v17)) fun v18 =>
 @AM.bind AV AV (pickA v13 (.bool true) v18) fun v19 =>
 @bcond AV v19 (
 @AM.bind AV AV (C 81 [(.int .i64 (.ofNat 501)), .snil]) fun v20 =>
 @AM.bind AV AV (unit2 (stN 4 v1 v20)) fun _ =>
 ldN 4 v1) (
 @bindP AV AV false (nilC a0) fun v21 =>
 @bindP AV AV false (faddr 0 v21) fun v22 =>
 @bindP AV AV false (ld v22) fun v23 =>
 @bindP AV AV false (faddr 0 v0) fun v24 =>
 @bindP AV AV false (ld v24) fun v25 =>
 @bindP AV AV false (faddr 1 v0) fun v26 =>
 @bindP AV AV false (faddr 2 v26) fun v27 =>
 @bindP AV AV false (ld v27) fun v28 =>
 @heavyA true (C 185 [v23, v25, v28]) AV fun v29 =>
 @bindP AV AV false (extA v29 0) fun v30 =>
 @bindP AV AV false (extA v29 1) fun v31 =>
 @bindP AV AV false (extA v29 2) fun v32 =>
 @bindP AV AV false (extA v29 3) fun v33 =>
 @AM.bind AV AV (bn Tryz.prog .eql 3 true v33 (.int .i64 (.ofNat 404))) fun v34 =>
 @bcond AV v34 (
 @AM.bind AV AV (C 81 [(.int .i64 (.ofNat 404)), .snil]) fun v35 =>
 @AM.bind AV AV (unit2 (stN 4 v1 v35)) fun _ =>
 ldN 4 v1) (
 @AM.bind AV AV (bn Tryz.prog .eql 3 true v33 (.int .i64 (.ofNat 405))) fun v36 =>
 @AM.bind AV AV (guardA v36 true (faddr 0 v0)) fun v37 =>
 @AM.bind AV AV (guardA v36 true (ld v37)) fun v38 =>
 @AM.bind AV AV (guardA v36 true (bn Tryz.prog .eql 9 true v38 (.str [79,80,84,73,79,78,83]))) fun v39 =>
 @AM.bind AV AV (pickA v36 v39 (.bool false)) fun v40 =>
 @bcond AV v40 (
 @AM.bind AV AV (C 184 [(.int .i64 (.ofNat 204)), v32]) fun v41 =>
 @AM.bind AV AV (unit2 (stN 4 v1 v41)) fun _ =>
 ldN 4 v1) (
 @AM.bind AV AV (bn Tryz.prog .eql 3 true v33 (.int .i64 (.ofNat 405))) fun v42 =>
 @bcond AV v42 (
 @AM.bind AV AV (C 184 [(.int .i64 (.ofNat 405)), v32]) fun v43 =>
 @AM.bind AV AV (unit2 (stN 4 v1 v43)) fun _ =>
 ldN 4 v1) (
 @AM.bind AV AV (bn Tryz.prog .eql 3 true v30 (.int .i64 (.ofNat 1))) fun v44 =>
 @bcond AV v44 (
 @AM.bind AV AV (faddr 6 v0) fun v45 =>
 @AM.bind AV AV (ld v45) fun v46 =>
 @AM.bind AV AV (C 167 [v46]) fun v47 =>
 @AM.bind AV AV (C 186 [v47, (.str [67,111,110,116,101,110,116,45,84,121,112,101])]) fun v48 =>
 @AM.bind AV AV (C 121 [v48]) fun v49 =>
 @AM.bind AV AV (bn Tryz.prog .eql 9 true v49 (.str [])) fun v50 =>
 @AM.bind Ans AV (@bcond Ans v50 (
 @AM.ret Ans (0, [(.str [97,112,112,108,105,99,97,116,105,111,110,47,111,99,116,101,116,45,115,116,114,101,97,109])])) (
 @AM.ret Ans (0, [v49]))) fun r51 =>
 cond (Nat.beq r51.1 0) (
 (fun (v52 : AV) =>
 @AM.bind AV AV (faddr 7 v0) fun v53 =>
 @AM.bind AV AV (ld v53) fun v54 =>
 @AM.bind AV AV (C 50 [v54]) fun v55 =>
 @AM.bind AV AV (C 187 [v52, v55]) fun v56 =>
 @AM.bind AV AV (unit2 (stN 4 v1 v56)) fun _ =>
 ldN 4 v1) (g0 r51.2 0)) (.bad)) (
 @AM.bind AV AV (bn Tryz.prog .eql 3 true v30 (.int .i64 (.ofNat 2))) fun v57 =>
 @bcond AV v57 (
 @AM.bind AV AV (nilC a0) fun v58 =>
 @AM.bind AV AV (faddr 1 v58) fun v59 =>
 @AM.bind AV AV (ld v59) fun v60 =>
 @AM.bind AV AV (lenSl v60) fun v61 =>
 @AM.bind Ans AV (Lp (fun l62 =>
 (fun (v63 : AV) =>
 @AM.bind AV Ans (bn Tryz.prog .lss 3 false v63 v61) fun v64 =>
 @bcond Ans v64 (
 @AM.bind AV Ans (iaddrS 3 v60 v63) fun v65 =>
 @AM.bind AV Ans (ldN 3 v65) fun v66 =>
 @AM.bind AV Ans (nw [(.str []), (.str []), (.str [])]) fun v67 =>
 @AM.bind AV Ans (unit2 (stN 3 v67 v66)) fun _ =>
 @AM.bind AV Ans (faddr 0 v67) fun v68 =>
 @AM.bind AV Ans (ld v68) fun v69 =>
 @AM.bind AV Ans (faddr 1 v0) fun v70 =>
 @AM.bind AV Ans (faddr 3 v70) fun v71 =>
 @AM.bind AV Ans (ld v71) fun v72 =>
 @AM.bind AV Ans (bn Tryz.prog .add 9 true (.str [47]) v72) fun v73 =>
 @AM.bind AV Ans (bn Tryz.prog .eql 9 false v69 v73) fun v74 =>
 @bcond Ans v74 (
 @AM.bind AV Ans (faddr 2 v67) fun v75 =>
 @AM.bind AV Ans (ld v75) fun v76 =>
 @AM.bind AV Ans (convA Tryz.prog 9 22 v76) fun v77 =>
 @AM.bind AV Ans (C 187 [(.str [116,101,120,116,47,112,108,97,105,110]), v77]) fun v78 =>
 @AM.bind AV Ans (unit2 (stN 4 v1 v78)) fun _ =>
 @AM.ret Ans (1, [v63])) (
 @AM.bind AV Ans (bn Tryz.prog .add 3 true v63 (.int .i64 (.ofNat 1))) fun v79 =>
 @AM.ret Ans (0, [v79]))) (
 @AM.ret Ans (5, [v63]))) (g0 l62 0)) [(.int .i64 (.ofNat 0))]) fun r80 =>
 cond (Nat.beq r80.1 5) (
 (fun (v81 : AV) =>
 @AM.bind AV AV (C 81 [(.int .i64 (.ofNat 404)), .snil]) fun v82 =>
 @AM.bind AV AV (unit2 (stN 4 v1 v82)) fun _ =>
 ldN 4 v1) (g0 r80.2 0)) (cond (Nat.beq r80.1 1) (
 (fun (v83 : AV) =>
 ldN 4 v1) (g0 r80.2 0)) (.bad))) (
 @AM.bind AV AV (bn Tryz.prog .eql 3 true v30 (.int .i64 (.ofNat 3))) fun v84 =>
 @bcond AV v84 (
 @AM.bind AV AV (bsl [(.int .u8 (.ofNat 0)), (.int .u8 (.ofNat 0)), (.int .u8 (.ofNat 0))] [(0, 1, (.int .u8 (.ofNat 111))), (1, 1, (.int .u8 (.ofNat 107))), (2, 1, (.int .u8 (.ofNat 10)))] 3 1) fun v85 =>
 @AM.bind AV AV (convA Tryz.prog 22 22 v85) fun v86 =>
 @AM.bind AV AV (C 187 [(.str [116,101,120,116,47,112,108,97,105,110]), v86]) fun v87 =>
 @AM.bind AV AV (unit2 (stN 4 v1 v87)) fun _ =>
 ldN 4 v1) (
 @AM.bind AV AV (nilC a0) fun v88 =>
 @AM.bind AV AV (faddr 1 v88) fun v89 =>
 @AM.bind AV AV (ld v89) fun v90 =>
 @AM.bind AV AV (bn Tryz.prog .sub 3 true v30 (.int .i64 (.ofNat 10))) fun v91 =>
 @AM.bind AV AV (iaddrS 3 v90 v91) fun v92 =>
 @AM.bind AV AV (ldN 3 v92) fun v93 =>
 @AM.bind AV AV (nw [(.str []), (.str []), (.str [])]) fun v94 =>
 @AM.bind AV AV (unit2 (stN 3 v94 v93)) fun _ =>
 @AM.bind AV AV (faddr 1 v94) fun v95 =>
 @AM.bind AV AV (ld v95) fun v96 =>
 @AM.bind AV AV (faddr 2 v94) fun v97 =>
 @AM.bind AV AV (ld v97) fun v98 =>
 @AM.bind AV AV (convA Tryz.prog 9 22 v98) fun v99 =>
 @AM.bind AV AV (C 187 [v96, v99]) fun v100 =>
 @AM.bind AV AV (nw [(.int .i64 (.ofNat 0)), .snil, .snil, .snil]) fun v101 =>
 @AM.bind AV AV (unit2 (stN 4 v101 v100)) fun _ =>
 @AM.bind AV AV (faddr 1 v94) fun v102 =>
 @AM.bind AV AV (ld v102) fun v103 =>
 @AM.bind AV AV (C 188 [v103, (.str [115,116,114,101,97,109])]) fun v104 =>
 @AM.bind Ans AV (@bcond Ans v104 (
 @AM.bind Ans Ans (Lp (fun l105 =>
 (fun (v106 : AV) =>
 @AM.bind AV Ans (faddr 2 v94) fun v107 =>
 @AM.bind AV Ans (ld v107) fun v108 =>
 @AM.bind AV Ans (lenStr v108) fun v109 =>
 @AM.bind AV Ans (bn Tryz.prog .add 3 true v109 (.int .i64 (.ofNat 16))) fun v110 =>
 @AM.bind AV Ans (bn Tryz.prog .lss 3 false v106 v110) fun v111 =>
 @AM.bind AV Ans (guardA v111 true (faddr 2 v94)) fun v112 =>
 @AM.bind AV Ans (guardA v111 true (ld v112)) fun v113 =>
 @AM.bind AV Ans (guardA v111 true (bn Tryz.prog .neq 9 true v113 (.str []))) fun v114 =>
 @AM.bind AV Ans (pickA v111 v114 (.bool false)) fun v115 =>
 @bcond Ans v115 (
 @AM.bind AV Ans (faddr 3 v101) fun v116 =>
 @AM.bind AV Ans (ld v116) fun v117 =>
 @AM.bind AV Ans (faddr 2 v94) fun v118 =>
 @AM.bind AV Ans (ld v118) fun v119 =>
 @AM.bind AV Ans (lenStr v119) fun v120 =>
 @AM.bind AV Ans (ofOpt (minA v106 [v120])) fun v121 =>
 @AM.bind AV Ans (bsl [(.int .i64 (.ofNat 0))] [(0, 1, v121)] 1 1) fun v122 =>
 @AM.bind AV Ans (apnd 1 v117 v122) fun v123 =>
 @AM.bind AV Ans (faddr 3 v101) fun v124 =>
 @AM.bind AV Ans (unit2 (st v124 v123)) fun _ =>
 @AM.bind AV Ans (bn Tryz.prog .add 3 true v106 (.int .i64 (.ofNat 16))) fun v125 =>
 @AM.ret Ans (0, [v125])) (
 @AM.ret Ans (7, [v106]))) (g0 l105 0)) [(.int .i64 (.ofNat 16))]) fun r126 =>
 cond (Nat.beq r126.1 7) (
 (fun (v127 : AV) =>
 @AM.ret Ans (0, [])) (g0 r126.2 0)) (.bad)) (
 @AM.ret Ans (0, []))) fun r128 =>
 cond (Nat.beq r128.1 0) (
 @AM.bind AV AV (ldN 4 v101) fun v129 =>
 @AM.bind AV AV (unit2 (stN 4 v1 v129)) fun _ =>
 ldN 4 v1) (.bad))))))))))
/- (*usher/parse.Parser).Waits -/
noncomputable def F143 (C : CallOp) (Lp : LoopOp) (a0 : AV) : AM AV :=
 @AM.bind AV AV (bn Tryz.prog .neq 41 true a0 (.ptr none)) fun v0 =>
 @AM.bind AV AV (guardA v0 true (.ret a0)) fun v1 =>
 @AM.bind AV AV (guardA v0 true (nilC v1)) fun v2 =>
 @AM.bind AV AV (guardA v0 true (faddr 0 v2)) fun v3 =>
 @AM.bind AV AV (guardA v0 true (ld v3)) fun v4 =>
 @AM.bind AV AV (guardA v0 true (bn Tryz.prog .eql 3 true v4 (.int .i64 (.ofNat 2)))) fun v5 =>
 @AM.bind AV AV (pickA v0 v5 (.bool false)) fun v6 =>
 @AM.bind AV AV (guardA v6 true (.ret a0)) fun v7 =>
 @AM.bind AV AV (guardA v6 true (nilC v7)) fun v8 =>
 @AM.bind AV AV (guardA v6 true (faddr 3 v8)) fun v9 =>
 @AM.bind AV AV (guardA v6 true (ld v9)) fun v10 =>
 @AM.bind AV AV (guardA v6 true (C 181 [v10])) fun v11 =>
 @AM.bind AV AV (guardA v6 true (part1 3 v11)) fun v12 =>
 @AM.bind AV AV (pickA v6 v12 (.bool false)) fun v13 =>
 @AM.bind AV AV (guardA v13 true (.ret a0)) fun v14 =>
 @AM.bind AV AV (guardA v13 true (nilC v14)) fun v15 =>
 @AM.bind AV AV (guardA v13 true (faddr 7 v15)) fun v16 =>
 @AM.bind AV AV (guardA v13 true (ld v16)) fun v17 =>
 @AM.bind AV AV (guardA v13 true (bn Tryz.prog .eql 3 true v17 (.int .i64 (.ofNat 0)))) fun v18 =>
 @AM.bind AV AV (pickA v13 v18 (.bool false)) fun v19 =>
 @AM.ret AV v19
/- usher/reply.isOne -/
noncomputable def F160 (C : CallOp) (Lp : LoopOp) (a0 : AV) : AM AV :=
 @AM.bind AV AV (boxA a0) fun v0 =>
 @AM.bind AV AV (faddr 0 v0) fun v1 =>
 @AM.bind AV AV (ld v1) fun v2 =>
 @AM.bind AV AV (bn Tryz.prog .lss 3 true v2 (.int .i64 (.ofNat 200))) fun v3 =>
 @AM.bind AV AV (guardA v3 false (faddr 0 v0)) fun v4 =>
 @AM.bind AV AV (guardA v3 false (ld v4)) fun v5 =>
 @AM.bind AV AV (guardA v3 false (bn Tryz.prog .gtr 3 true v5 (.int .i64 (.ofNat 599)))) fun v6 =>
 @AM.bind AV AV (pickA v3 (.bool true) v6) fun v7 =>
 @AM.bind AV AV (guardA v7 false (faddr 2 v0)) fun v8 =>
 @AM.bind AV AV (guardA v7 false (ld v8)) fun v9 =>
 @AM.bind AV AV (guardA v7 false (lenSl v9)) fun v10 =>
 @AM.bind AV AV (guardA v7 false (bn Tryz.prog .gtr 3 true v10 (.int .i64 (.ofNat 0)))) fun v11 =>
 @AM.bind AV AV (guardA v7 false (.ret v11)) fun v12 =>
 @AM.bind AV AV (guardA v12 true (faddr 0 v0)) fun v13 =>
 @AM.bind AV AV (guardA v12 true (ld v13)) fun v14 =>
 @AM.bind AV AV (guardA v12 true (C 112 [v14])) fun v15 =>
 @AM.bind AV AV (guardA v7 false (pickA v12 v15 (.bool false))) fun v16 =>
 @AM.bind AV AV (pickA v7 (.bool true) v16) fun v17 =>
 @bcond AV v17 (
 @AM.ret AV (.bool false)) (
 fun h19 => @bindP AV AV false (C 167 [.snil]) (fun v18 h20 => cond (Nat.ble h19.next h20.next && true) ((
 @bindP AV AV false (faddr 1 v0) fun v21 =>
 fun h23 => @bindP AV AV false (ld v21) (fun v22 h24 => cond ((AV.under h19.next v21 && true) && (sameS (ld v21) v22 h19 && true)) ((
 @heavyA true (C 197 [v18, v22]) AV fun v25 =>
 @bindP AV AV false (extA v25 0) fun v26 =>
 @bindP AV AV false (extA v25 1) fun v27 =>
 @AM.bind AV AV (faddr 1 v0) fun v28 =>
 @AM.bind AV AV (ld v28) fun v29 =>
 @AM.bind AV AV (lenSl v29) fun v30 =>
 @AM.bind AV AV (bn Tryz.prog .lss 3 false v26 v30) fun v31 =>
 @AM.bind AV AV (guardA v31 false (.ret v27)) fun v32 =>
 @AM.bind AV AV (guardA v31 false (bn Tryz.prog .neq 76 true v32 (.int .i64 (.ofNat 0)))) fun v33 =>
 @AM.bind AV AV (pickA v31 (.bool true) v33) fun v34 =>
 @bcond AV v34 (
 @AM.ret AV (.bool false)) (
 @AM.bind AV AV (faddr 1 v0) fun v35 =>
 @AM.bind AV AV (ld v35) fun v36 =>
 @AM.bind AV AV (lenSl v36) fun v37 =>
 @AM.bind Ans AV (Lp (fun l38 =>
 (fun (v39 v40 : AV) =>
 @AM.bind AV Ans (bn Tryz.prog .lss 3 false v40 v37) fun v41 =>
 @bcond Ans v41 (
 @AM.bind AV Ans (iaddrS 2 v36 v40) fun v42 =>
 @AM.bind AV Ans (ldN 2 v42) fun v43 =>
 @AM.bind AV Ans (nw [(.str []), (.str [])]) fun v44 =>
 @AM.bind AV Ans (unit2 (stN 2 v44 v43)) fun _ =>
 @AM.bind AV Ans (faddr 0 v44) fun v45 =>
 @AM.bind AV Ans (ld v45) fun v46 =>
 @AM.bind AV Ans (C 198 [v46]) fun v47 =>
 @bcond Ans v47 (
 @AM.ret Ans (1, [(.bool false), v40])) (
 @AM.bind AV Ans (bn Tryz.prog .add 3 true v40 (.int .i64 (.ofNat 1))) fun v48 =>
 @AM.ret Ans (0, [v39, v48]))) (
 @AM.ret Ans (2, [v39, v40]))) (g0 l38 0) (g0 l38 1)) [(.bool false), (.int .i64 (.ofNat 0))]) fun r49 =>
 cond (Nat.beq r49.1 2) (
 (fun (v50 v51 : AV) =>
 @AM.bind AV AV (faddr 3 v0) fun v52 =>
 @AM.bind AV AV (ld v52) fun v53 =>
 @AM.bind AV AV (lenSl v53) fun v54 =>
 @AM.bind Ans AV (Lp (fun l55 =>
 (fun (v56 v57 v58 : AV) =>
 @AM.bind AV Ans (bn Tryz.prog .lss 3 false v58 v54) fun v59 =>
 @bcond Ans v59 (
 @AM.bind AV Ans (iaddrS 1 v53 v58) fun v60 =>
 @AM.bind AV Ans (ld v60) fun v61 =>
 @AM.bind AV Ans (bn Tryz.prog .leq 3 false v61 v57) fun v62 =>
 @AM.bind AV Ans (guardA v62 false (.ret v61)) fun v63 =>
 @AM.bind AV Ans (guardA v62 false (faddr 2 v0)) fun v64 =>
 @AM.bind AV Ans (guardA v62 false (ld v64)) fun v65 =>
 @AM.bind AV Ans (guardA v62 false (lenSl v65)) fun v66 =>
 @AM.bind AV Ans (guardA v62 false (bn Tryz.prog .gtr 3 false v63 v66)) fun v67 =>
 @AM.bind AV Ans (pickA v62 (.bool true) v67) fun v68 =>
 @bcond Ans v68 (
 @AM.ret Ans (1, [(.bool false), v57, v58])) (
 @AM.bind AV Ans (bn Tryz.prog .add 3 true v58 (.int .i64 (.ofNat 1))) fun v69 =>
 @AM.ret Ans (0, [v56, v61, v69]))) (
 @AM.ret Ans (4, [v56, v57, v58]))) (g0 l55 0) (g0 l55 1) (g0 l55 2)) [v50, (.int .i64 (.ofNat 0)), (.int .i64 (.ofNat 0))]) fun r70 =>
 cond (Nat.beq r70.1 4) (
 (fun (v71 v72 v73 : AV) =>
 @AM.bind AV AV (faddr 3 v0) fun v74 =>
 @AM.bind AV AV (ld v74) fun v75 =>
 @AM.bind AV AV (lenSl v75) fun v76 =>
 @AM.bind AV AV (bn Tryz.prog .eql 3 true v76 (.int .i64 (.ofNat 0))) fun v77 =>
 @AM.bind AV AV (guardA v77 false (.ret v72)) fun v78 =>
 @AM.bind AV AV (guardA v77 false (faddr 2 v0)) fun v79 =>
 @AM.bind AV AV (guardA v77 false (ld v79)) fun v80 =>
 @AM.bind AV AV (guardA v77 false (lenSl v80)) fun v81 =>
 @AM.bind AV AV (guardA v77 false (bn Tryz.prog .eql 3 false v78 v81)) fun v82 =>
 @AM.bind AV AV (pickA v77 (.bool true) v82) fun v83 =>
 @AM.ret AV v83) (g0 r70.2 0) (g0 r70.2 1) (g0 r70.2 2)) (cond (Nat.beq r70.1 1) (
 (fun (v84 v85 v86 : AV) =>
 @AM.ret AV v84) (g0 r70.2 0) (g0 r70.2 1) (g0 r70.2 2)) (.bad))) (g0 r49.2 0) (g0 r49.2 1)) (cond (Nat.beq r49.1 1) (
 (fun (v87 v88 : AV) =>
 @AM.ret AV v87) (g0 r49.2 0) (g0 r49.2 1)) (.bad)))) h24) .bad) h23) h20) .bad) h19)
/- usher/reply.Encode$1 -/
noncomputable def F161 (C : CallOp) (Lp : LoopOp) (a0 a1 : AV) : AM AV :=
 fun h1 => @bindP AV AV false (ld a1) (fun v0 =>
 fun h4 => @bindP AV AV true (C 113 [a0]) (fun v3 h5 => cond (Nat.ble h4.next h5.next && (AV.under h1.next v0 && (sameS (ld a1) v0 h5 && true))) ((
 @heavyA true (apnd 1 v0 v3) AV fun v6 =>
 @heavyA true (apnd 1 v6 (.str [13,10])) AV fun v7 =>
 @heavyA true (unit2 (st a1 v7)) AV fun _ =>
 @AM.ret AV (.tuple [])) h5) .bad) h4) h1
/- strings.Join -/
noncomputable def F164 (C : CallOp) (Lp : LoopOp) (a0 a1 : AV) : AM AV :=
 @AM.bind AV AV (lenSl a0) fun v0 =>
 @AM.bind AV AV (bn Tryz.prog .eql 3 true v0 (.int .i64 (.ofNat 0))) fun v1 =>
 @bcond AV v1 (
 @AM.ret AV (.str [])) (
 @AM.bind AV AV (bn Tryz.prog .eql 3 true v0 (.int .i64 (.ofNat 1))) fun v2 =>
 @bcond AV v2 (
 @AM.bind AV AV (iaddrS 1 a0 (.int .i64 (.ofNat 0))) fun v3 =>
 @AM.bind AV AV (ld v3) fun v4 =>
 @AM.ret AV v4) (
 @AM.bind AV AV (lenStr a1) fun v5 =>
 @AM.bind AV AV (bn Tryz.prog .gtr 3 true v5 (.int .i64 (.ofNat 0))) fun v6 =>
 @AM.bind Ans AV (@bcond Ans v6 (
 @AM.bind AV Ans (lenStr a1) fun v7 =>
 @AM.bind AV Ans (lenSl a0) fun v8 =>
 @AM.bind AV Ans (bn Tryz.prog .sub 3 true v8 (.int .i64 (.ofNat 1))) fun v9 =>
 @AM.bind AV Ans (bn Tryz.prog .quo 3 true (.int .i64 (.ofNat 9223372036854775807)) v9) fun v10 =>
 @AM.bind AV Ans (bn Tryz.prog .geq 3 false v7 v10) fun v11 =>
 @AM.bind Ans Ans (@bcond Ans v11 (
 @AM.bind AV Ans (panA (.iface 9 (.str [115,116,114,105,110,103,115,58,32,74,111,105,110,32,111,117,116,112,117,116,32,108,101,110,103,116,104,32,111,118,101,114,102,108,111,119]))) fun _ =>
 @AM.ret Ans (0, [])) (
 @AM.ret Ans (0, []))) fun r12 =>
 cond (Nat.beq r12.1 0) (
 @AM.bind AV Ans (lenStr a1) fun v13 =>
 @AM.bind AV Ans (lenSl a0) fun v14 =>
 @AM.bind AV Ans (bn Tryz.prog .sub 3 true v14 (.int .i64 (.ofNat 1))) fun v15 =>
 @AM.bind AV Ans (bn Tryz.prog .mul 3 false v13 v15) fun v16 =>
 @AM.bind AV Ans (bn Tryz.prog .add 3 false (.int .i64 (.ofNat 0)) v16) fun v17 =>
 @AM.ret Ans (0, [v17])) (.bad)) (
 @AM.ret Ans (0, [(.int .i64 (.ofNat 0))]))) fun r18 =>
 cond (Nat.beq r18.1 0) (
 (fun (v19 : AV) =>
 @AM.bind AV AV (lenSl a0) fun v20 =>
 @AM.bind Ans AV (Lp (fun l21 =>
 (fun (v22 v23 : AV) =>
 @AM.bind AV Ans (bn Tryz.prog .lss 3 false v23 v20) fun v24 =>
 @bcond Ans v24 (
 @AM.bind AV Ans (iaddrS 1 a0 v23) fun v25 =>
 @AM.bind AV Ans (ld v25) fun v26 =>
 @AM.bind AV Ans (lenStr v26) fun v27 =>
 @AM.bind AV Ans (bn Tryz.prog .sub 3 true (.int .i64 (.ofNat 9223372036854775807)) v22) fun v28 =>
 @AM.bind AV Ans (bn Tryz.prog .gtr 3 false v27 v28) fun v29 =>
 @AM.bind Ans Ans (@bcond Ans v29 (
 @AM.bind AV Ans (panA (.iface 9 (.str [115,116,114,105,110,103,115,58,32,74,111,105,110,32,111,117,116,112,117,116,32,108,101,110,103,116,104,32,111,118,101,114,102,108,111,119]))) fun _ =>
 @AM.ret Ans (0, [])) (
 @AM.ret Ans (0, []))) fun r30 =>
 cond (Nat.beq r30.1 0) (
 @AM.bind AV Ans (lenStr v26) fun v31 =>
 @AM.bind AV Ans (bn Tryz.prog .add 3 false v22 v31) fun v32 =>
 @AM.bind AV Ans (bn Tryz.prog .add 3 true v23 (.int .i64 (.ofNat 1))) fun v33 =>
 @AM.ret Ans (0, [v32, v33])) (.bad)) (
 @AM.ret Ans (3, [v22, v23]))) (g0 l21 0) (g0 l21 1)) [v19, (.int .i64 (.ofNat 0))]) fun r34 =>
 cond (Nat.beq r34.1 3) (
 (fun (v35 v36 : AV) =>
 @AM.bind AV AV (nw [(.ptr none), .snil]) fun v37 =>
 @AM.bind AV AV (C 200 [v37, v35]) fun v38 =>
 @AM.bind AV AV (iaddrS 1 a0 (.int .i64 (.ofNat 0))) fun v39 =>
 @AM.bind AV AV (ld v39) fun v40 =>
 @AM.bind AV AV (C 201 [v37, v40]) fun v41 =>
 @AM.bind AV AV (sliceA Tryz.prog 143 a0 (some (.int .i64 (.ofNat 1))) none none) fun v42 =>
 @AM.bind AV AV (lenSl v42) fun v43 =>
 @AM.bind Ans AV (Lp (fun l44 =>
 (fun (v45 : AV) =>
 @AM.bind AV Ans (bn Tryz.prog .lss 3 false v45 v43) fun v46 =>
 @bcond Ans v46 (
 @AM.bind AV Ans (iaddrS 1 v42 v45) fun v47 =>
 @AM.bind AV Ans (ld v47) fun v48 =>
 @AM.bind AV Ans (C 201 [v37, a1]) fun v49 =>
 @AM.bind AV Ans (C 201 [v37, v48]) fun v50 =>
 @AM.bind AV Ans (bn Tryz.prog .add 3 true v45 (.int .i64 (.ofNat 1))) fun v51 =>
 @AM.ret Ans (0, [v51])) (
 @AM.ret Ans (5, [v45]))) (g0 l44 0)) [(.int .i64 (.ofNat 0))]) fun r52 =>
 cond (Nat.beq r52.1 5) (
 (fun (v53 : AV) =>
 @AM.bind AV AV (C 202 [v37]) fun v54 =>
 @AM.ret AV v54) (g0 r52.2 0)) (.bad)) (g0 r34.2 0) (g0 r34.2 1)) (.bad)) (g0 r18.2 0)) (.bad)))
/- strconv.Itoa -/
noncomputable def F165 (C : CallOp) (Lp : LoopOp) (a0 : AV) : AM AV :=
 @AM.bind AV AV (C 203 [a0]) fun v0 =>
 @AM.ret AV v0
/- usher/gate.within -/
noncomputable def F166 (C : CallOp) (Lp : LoopOp) (a0 a1 a2 : AV) : AM AV :=
 @AM.bind AV AV (lenSl a2) fun v0 =>
 @AM.bind Ans AV (Lp (fun l1 =>
 (fun (v2 v3 : AV) =>
 @AM.bind AV Ans (bn Tryz.prog .lss 3 false v3 v0) fun v4 =>
 @bcond Ans v4 (
 @AM.bind AV Ans (iaddrS 1 a2 v3) fun v5 =>
 @AM.bind AV Ans (ld v5) fun v6 =>
 @AM.bind AV Ans (bn Tryz.prog .lss 3 false v6 a0) fun v7 =>
 @AM.bind AV Ans (guardA v7 false (.ret v6)) fun v8 =>
 @AM.bind AV Ans (guardA v7 false (.ret a1)) fun v9 =>
 @AM.bind AV Ans (guardA v7 false (bn Tryz.prog .gtr 3 false v8 v9)) fun v10 =>
 @AM.bind AV Ans (pickA v7 (.bool true) v10) fun v11 =>
 @bcond Ans v11 (
 @AM.ret Ans (1, [(.bool false), v3])) (
 @AM.bind AV Ans (bn Tryz.prog .add 3 true v3 (.int .i64 (.ofNat 1))) fun v12 =>
 @AM.ret Ans (0, [v2, v12]))) (
 @AM.ret Ans (2, [v2, v3]))) (g0 l1 0) (g0 l1 1)) [(.bool false), (.int .i64 (.ofNat 0))]) fun r13 =>
 cond (Nat.beq r13.1 2) (
 (fun (v14 v15 : AV) =>
 @AM.ret AV (.bool true)) (g0 r13.2 0) (g0 r13.2 1)) (cond (Nat.beq r13.1 1) (
 (fun (v16 v17 : AV) =>
 @AM.ret AV v16) (g0 r13.2 0) (g0 r13.2 1)) (.bad))
/- usher/field.Of -/
noncomputable def F167 (C : CallOp) (Lp : LoopOp) (a0 : AV) : AM AV :=
 @AM.bind AV AV (bld [.snil] []) fun v0 =>
 @AM.bind AV AV (boxA v0) fun v1 =>
 @AM.bind AV AV (C 197 [v1, a0]) fun v2 =>
 @AM.ret AV v1
/- strings.Split -/
noncomputable def F168 (C : CallOp) (Lp : LoopOp) (a0 a1 : AV) : AM AV :=
 @AM.bind AV AV (C 204 [a0, a1, (.int .i64 (.ofNat 0)), (.int .i64 (.negSucc 0))]) fun v0 =>
 @AM.ret AV v0
/- internal/stringslite.HasSuffix -/
noncomputable def F169 (C : CallOp) (Lp : LoopOp) (a0 a1 : AV) : AM AV :=
 @AM.bind AV AV (lenStr a0) fun v0 =>
 @AM.bind AV AV (lenStr a1) fun v1 =>
 @AM.bind AV AV (bn Tryz.prog .geq 3 false v0 v1) fun v2 =>
 @AM.bind AV AV (guardA v2 true (.ret a0)) fun v3 =>
 @AM.bind AV AV (guardA v2 true (.ret a0)) fun v4 =>
 @AM.bind AV AV (guardA v2 true (lenStr v4)) fun v5 =>
 @AM.bind AV AV (guardA v2 true (.ret a1)) fun v6 =>
 @AM.bind AV AV (guardA v2 true (lenStr v6)) fun v7 =>
 @AM.bind AV AV (guardA v2 true (bn Tryz.prog .sub 3 false v5 v7)) fun v8 =>
 @AM.bind AV AV (guardA v2 true (sliceA Tryz.prog 9 v3 (some v8) none none)) fun v9 =>
 @AM.bind AV AV (guardA v2 true (.ret a1)) fun v10 =>
 @AM.bind AV AV (guardA v2 true (bn Tryz.prog .eql 9 false v9 v10)) fun v11 =>
 @AM.bind AV AV (pickA v2 v11 (.bool false)) fun v12 =>
 @AM.ret AV v12
/- usher/ascii.all -/
noncomputable def F170 (C : CallOp) (Lp : LoopOp) (a0 a1 : AV) : AM AV :=
 @AM.bind AV AV (lenStr a0) fun v0 =>
 @AM.bind Ans AV (Lp (fun l1 =>
 (fun (v2 v3 : AV) =>
 @AM.bind AV Ans (bn Tryz.prog .lss 3 false v3 v0) fun v4 =>
 @bcond Ans v4 (
 @AM.bind AV Ans (sIdx a0 v3) fun v5 =>
 @AM.bind AV Ans (callA C a1 [v5]) fun v6 =>
 @AM.bind AV Ans (un .not v6) fun v7 =>
 @bcond Ans v7 (
 @AM.ret Ans (1, [(.bool false), v3])) (
 @AM.bind AV Ans (bn Tryz.prog .add 3 true v3 (.int .i64 (.ofNat 1))) fun v8 =>
 @AM.ret Ans (0, [v2, v8]))) (
 @AM.ret Ans (2, [v2, v3]))) (g0 l1 0) (g0 l1 1)) [(.bool false), (.int .i64 (.ofNat 0))]) fun r9 =>
 cond (Nat.beq r9.1 2) (
 (fun (v10 v11 : AV) =>
 @AM.ret AV (.bool true)) (g0 r9.2 0) (g0 r9.2 1)) (cond (Nat.beq r9.1 1) (
 (fun (v12 v13 : AV) =>
 @AM.ret AV v12) (g0 r9.2 0) (g0 r9.2 1)) (.bad))
/- usher/ascii.IsValue$1 -/
noncomputable def F171 (C : CallOp) (Lp : LoopOp) (a0 : AV) : AM AV :=
 @AM.bind AV AV (bn Tryz.prog .eql 5 true a0 (.int .u8 (.ofNat 9))) fun v0 =>
 @AM.bind AV AV (guardA v0 false (.ret a0)) fun v1 =>
 @AM.bind AV AV (guardA v0 false (bn Tryz.prog .geq 5 true v1 (.int .u8 (.ofNat 32)))) fun v2 =>
 @AM.bind AV AV (guardA v0 false (.ret v2)) fun v3 =>
 @AM.bind AV AV (guardA v3 true (.ret a0)) fun v4 =>
 @AM.bind AV AV (guardA v3 true (bn Tryz.prog .neq 5 true v4 (.int .u8 (.ofNat 127)))) fun v5 =>
 @AM.bind AV AV (guardA v0 false (pickA v3 v5 (.bool false))) fun v6 =>
 @AM.bind AV AV (pickA v0 (.bool true) v6) fun v7 =>
 @AM.ret AV v7
/- strings.Trim -/
noncomputable def F172 (C : CallOp) (Lp : LoopOp) (a0 a1 : AV) : AM AV :=
 @AM.bind AV AV (bn Tryz.prog .eql 9 true a0 (.str [])) fun v0 =>
 @AM.bind AV AV (guardA v0 false (.ret a1)) fun v1 =>
 @AM.bind AV AV (guardA v0 false (bn Tryz.prog .eql 9 true v1 (.str []))) fun v2 =>
 @AM.bind AV AV (pickA v0 (.bool true) v2) fun v3 =>
 @bcond AV v3 (
 @AM.ret AV a0) (
 @AM.bind AV AV (lenStr a1) fun v4 =>
 @AM.bind AV AV (bn Tryz.prog .eql 3 true v4 (.int .i64 (.ofNat 1))) fun v5 =>
 @AM.bind AV AV (guardA v5 true (.ret a1)) fun v6 =>
 @AM.bind AV AV (guardA v5 true (sIdx v6 (.int .i64 (.ofNat 0)))) fun v7 =>
 @AM.bind AV AV (guardA v5 true (bn Tryz.prog .lss 5 true v7 (.int .u8 (.ofNat 128)))) fun v8 =>
 @AM.bind AV AV (pickA v5 v8 (.bool false)) fun v9 =>
 @bcond AV v9 (
 @bindP AV AV false (sIdx a1 (.int .i64 (.ofNat 0))) fun v10 =>
 @heavyA false (C 206 [a0, v10]) AV fun v11 =>
 @bindP AV AV false (sIdx a1 (.int .i64 (.ofNat 0))) fun v12 =>
 @heavyA true (C 205 [v11, v12]) AV fun v13 =>
 @AM.ret AV v13) (
 @AM.bind AV AV (C 207 [a1]) fun v14 =>
 @AM.bind AV AV (extA v14 0) fun v15 =>
 @AM.bind AV AV (extA v14 1) fun v16 =>
 @AM.bind AV AV (nw [(.bool false), (.bool false), (.bool false), (.bool false), (.bool false), (.bool false), (.bool false), (.bool false), (.bool false), (.bool false), (.bool false), (.bool false), (.bool false), (.bool false), (.bool false), (.bool false), (.bool false), (.bool false), (.bool false), (.bool false), (.bool false), (.bool false), (.bool false), (.bool false), (.bool false), (.bool false), (.bool false), (.bool false), (.bool false), (.bool false), (.bool false), (.bool false), (.bool false), (.bool false), (.bool false), (.bool false), (.bool false), (.bool false), (.bool false), (.bool false), (.bool false), (.bool false), (.bool false), (.bool false), (.bool false), (.bool false), (.bool false), (.bool false), (.bool false), (.bool false), (.bool false), (.bool false), (.bool false), (.bool false), (.bool false), (.bool false), (.bool false), (.bool false), (.bool false), (.bool false), (.bool false), (.bool false), (.bool false), (.bool false), (.bool false), (.bool false), (.bool false), (.bool false), (.bool false), (.bool false), (.bool false), (.bool false), (.bool false), (.bool false), (.bool false), (.bool false), (.bool false), (.bool false), (.bool false), (.bool false), (.bool false), (.bool false), (.bool false), (.bool false), (.bool false), (.bool false), (.bool false), (.bool false), (.bool false), (.bool false), (.bool false), (.bool false), (.bool false), (.bool false), (.bool false), (.bool false), (.bool false), (.bool false), (.bool false), (.bool false), (.bool false), (.bool false), (.bool false), (.bool false), (.bool false), (.bool false), (.bool false), (.bool false), (.bool false), (.bool false), (.bool false), (.bool false), (.bool false), (.bool false), (.bool false), (.bool false), (.bool false), (.bool false), (.bool false), (.bool false), (.bool false), (.bool false), (.bool false), (.bool false), (.bool false), (.bool false), (.bool false), (.bool false), (.bool false), (.bool false), (.bool false), (.bool false), (.bool false), (.bool false), (.bool false), (.bool false), (.bool false), (.bool false), (.bool false), (.bool false), (.bool false), (.bool false), (.bool false), (.bool false), (.bool false), (.bool false), (.bool false), (.bool false), (.bool false), (.bool false), (.bool false), (.bool false), (.bool false), (.bool false), (.bool false), (.bool false), (.bool false), (.bool false), (.bool false), (.bool false), (.bool false), (.bool false), (.bool false), (.bool false), (.bool false), (.bool false), (.bool false), (.bool false), (.bool false), (.bool false), (.bool false), (.bool false), (.bool false), (.bool false), (.bool false), (.bool false), (.bool false), (.bool false), (.bool false), (.bool false), (.bool false), (.bool false), (.bool false), (.bool false), (.bool false), (.bool false), (.bool false), (.bool false), (.bool false), (.bool false), (.bool false), (.bool false), (.bool false), (.bool false), (.bool false), (.bool false), (.bool false), (.bool false), (.bool false), (.bool false), (.bool false), (.bool false), (.bool false), (.bool false), (.bool false), (.bool false), (.bool false), (.bool false), (.bool false), (.bool false), (.bool false), (.bool false), (.bool false), (.bool false), (.bool false), (.bool false), (.bool false), (.bool false), (.bool false), (.bool false), (.bool false), (.bool false), (.bool false), (.bool false), (.bool false), (.bool false), (.bool false), (.bool false), (.bool false), (.bool false), (.bool false), (.bool false), (.bool false), (.bool false), (.bool false), (.bool false), (.bool false), (.bool false), (.bool false), (.bool false), (.bool false), (.bool false), (.bool false), (.bool false), (.bool false), (.bool false), (.bool false), (.bool false), (.bool false), (.bool false), (.bool false), (.bool false), (.bool false), (.bool false), (.bool false), (.bool false)]) fun v17 =>
 @AM.bind AV AV (unit2 (stN 256 v17 v15)) fun _ =>
 @bcond AV v16 (
 @AM.bind AV AV (C 209 [a0, v17]) fun v18 =>
 @AM.bind AV AV (C 208 [v18, v17]) fun v19 =>
 @AM.ret AV v19) (
 @AM.bind AV AV (C 211 [a0, a1]) fun v20 =>
 @AM.bind AV AV (C 210 [v20, a1]) fun v21 =>
 @AM.ret AV v21)))
/- internal/stringslite.CutSuffix -/
noncomputable def F173 (C : CallOp) (Lp : LoopOp) (a0 a1 : AV) : AM AV :=
 @AM.bind AV AV (C 169 [a0, a1]) fun v0 =>
 @AM.bind AV AV (un .not v0) fun v1 =>
 @bcond AV v1 (
 @AM.ret AV (.tuple (a0 :: ((.bool false) :: [])))) (
 @AM.bind AV AV (lenStr a0) fun v2 =>
 @AM.bind AV AV (lenStr a1) fun v3 =>
 @AM.bind AV AV (bn Tryz.prog .sub 3 false v2 v3) fun v4 =>
 @AM.bind AV AV (sliceA Tryz.prog 9 a0 none (some v4) none) fun v5 =>
 @AM.ret AV (.tuple (v5 :: ((.bool true) :: []))))
/- slices.IndexFunc[[]string,string] -/
noncomputable def F174 (C : CallOp) (Lp : LoopOp) (a0 a1 : AV) : AM AV :=
 @AM.bind AV AV (lenSl a0) fun v0 =>
 @AM.bind Ans AV (Lp (fun l1 =>
 (fun (v2 v3 : AV) =>
 @AM.bind AV Ans (bn Tryz.prog .lss 3 false v3 v0) fun v4 =>
 @bcond Ans v4 (
 @AM.bind AV Ans (iaddrS 1 a0 v3) fun v5 =>
 @AM.bind AV Ans (ld v5) fun v6 =>
 @AM.bind AV Ans (callA C a1 [v6]) fun v7 =>
 @bcond Ans v7 (
 @AM.ret Ans (1, [v3, v3])) (
 @AM.bind AV Ans (bn Tryz.prog .add 3 true v3 (.int .i64 (.ofNat 1))) fun v8 =>
 @AM.ret Ans (0, [v2, v8]))) (
 @AM.ret Ans (2, [v2, v3]))) (g0 l1 0) (g0 l1 1)) [(.int .i64 (.ofNat 0)), (.int .i64 (.ofNat 0))]) fun r9 =>
 cond (Nat.beq r9.1 2) (
 (fun (v10 v11 : AV) =>
 @AM.ret AV (.int .i64 (.negSucc 0))) (g0 r9.2 0) (g0 r9.2 1)) (cond (Nat.beq r9.1 1) (
 (fun (v12 v13 : AV) =>
 @AM.ret AV v12) (g0 r9.2 0) (g0 r9.2 1)) (.bad))
/- usher/ascii.IsToken$1 -/
noncomputable def F175 (C : CallOp) (Lp : LoopOp) (a0 : AV) : AM AV :=
 @AM.bind AV AV (C 176 [a0]) fun v0 =>
 @AM.bind AV AV (guardA v0 false (.ret a0)) fun v1 =>
 @AM.bind AV AV (guardA v0 false (C 177 [(.str [48,49,50,51,52,53,54,55,56,57,33,35,36,37,38,39,42,43,45,46,94,95,96,124,126]), v1])) fun v2 =>
 @AM.bind AV AV (guardA v0 false (bn Tryz.prog .geq 3 true v2 (.int .i64 (.ofNat 0)))) fun v3 =>
 @AM.bind AV AV (pickA v0 (.bool true) v3) fun v4 =>
 @AM.ret AV v4
/- usher/ascii.isLetter -/
noncomputable def F176 (C : CallOp) (Lp : LoopOp) (a0 : AV) : AM AV :=
 @AM.bind AV AV (C 212 [a0]) fun v0 =>
 @AM.bind AV AV (guardA v0 false (.ret a0)) fun v1 =>
 @AM.bind AV AV (guardA v0 false (bn Tryz.prog .geq 5 true v1 (.int .u8 (.ofNat 97)))) fun v2 =>
 @AM.bind AV AV (guardA v0 false (.ret v2)) fun v3 =>
 @AM.bind AV AV (guardA v3 true (.ret a0)) fun v4 =>
 @AM.bind AV AV (guardA v3 true (bn Tryz.prog .leq 5 true v4 (.int .u8 (.ofNat 122)))) fun v5 =>
 @AM.bind AV AV (guardA v0 false (pickA v3 v5 (.bool false))) fun v6 =>
 @AM.bind AV AV (pickA v0 (.bool true) v6) fun v7 =>
 @AM.ret AV v7
/- strings.IndexByte -/
noncomputable def F177 (C : CallOp) (Lp : LoopOp) (a0 a1 : AV) : AM AV :=
 @AM.bind AV AV (C 213 [a0, a1]) fun v0 =>
 @AM.ret AV v0
/- slices.Index[[]string,string] -/
noncomputable def F178 (C : CallOp) (Lp : LoopOp) (a0 a1 : AV) : AM AV :=
 @AM.bind AV AV (lenSl a0) fun v0 =>
 @AM.bind Ans AV (Lp (fun l1 =>
 (fun (v2 v3 : AV) =>
 @AM.bind AV Ans (bn Tryz.prog .lss 3 false v3 v0) fun v4 =>
 @bcond Ans v4 (
 @AM.bind AV Ans (iaddrS 1 a0 v3) fun v5 =>
 @AM.bind AV Ans (ld v5) fun v6 =>
 @AM.bind AV Ans (bn Tryz.prog .eql 9 false a1 v6) fun v7 =>
 @bcond Ans v7 (
 @AM.ret Ans (1, [v3, v3])) (
 @AM.bind AV Ans (bn Tryz.prog .add 3 true v3 (.int .i64 (.ofNat 1))) fun v8 =>
 @AM.ret Ans (0, [v2, v8]))) (
 @AM.ret Ans (2, [v2, v3]))) (g0 l1 0) (g0 l1 1)) [(.int .i64 (.ofNat 0)), (.int .i64 (.ofNat 0))]) fun r9 =>
 cond (Nat.beq r9.1 2) (
 (fun (v10 v11 : AV) =>
 @AM.ret AV (.int .i64 (.negSucc 0))) (g0 r9.2 0) (g0 r9.2 1)) (cond (Nat.beq r9.1 1) (
 (fun (v12 v13 : AV) =>
 @AM.ret AV v12) (g0 r9.2 0) (g0 r9.2 1)) (.bad))
/- usher/usherref1.TokenByte -/
noncomputable def F179 (C : CallOp) (Lp : LoopOp) (a0 : AV) : AM AV :=
 @AM.bind AV AV (C 214 [a0]) fun v0 =>
 @AM.bind AV AV (guardA v0 false (.ret a0)) fun v1 =>
 @AM.bind AV AV (guardA v0 false (C 215 [v1, (.str [33,35,36,37,38,39,42,43,45,46,94,95,96,124,126])])) fun v2 =>
 @AM.bind AV AV (pickA v0 (.bool true) v2) fun v3 =>
 @AM.ret AV v3
/- (*usher/parse.Parser).some -/
noncomputable def F180 (C : CallOp) (Lp : LoopOp) (a0 a1 : AV) : AM AV :=
 @AM.bind AV AV (nilC a0) fun v0 =>
 @AM.bind AV AV (faddr 0 v0) fun v1 =>
 @AM.bind AV AV (ld v1) fun v2 =>
 @AM.bind AV AV (bn Tryz.prog .neq 3 true v2 (.int .i64 (.ofNat 2))) fun v3 =>
 @bcond AV v3 (
 @AM.bind AV AV (nilC a0) fun v4 =>
 @AM.bind AV AV (faddr 0 v4) fun v5 =>
 @AM.bind AV AV (unit2 (st v5 (.int .i64 (.ofNat 1)))) fun _ =>
 @AM.bind AV AV (iaddrS 1 a1 (.int .i64 (.ofNat 0))) fun v6 =>
 @AM.bind AV AV (ld v6) fun v7 =>
 @AM.bind AV AV (C 216 [a0, v7]) fun v8 =>
 @AM.ret AV (.int .i64 (.ofNat 1))) (
 @AM.bind AV AV (nilC a0) fun v9 =>
 @AM.bind AV AV (faddr 4 v9) fun v10 =>
 @AM.bind AV AV (ld v10) fun v11 =>
 @AM.bind AV AV (lenSl a1) fun v12 =>
 @AM.bind AV AV (ofOpt (minA v11 [v12])) fun v13 =>
 @AM.bind AV AV (nilC a0) fun v14 =>
 @AM.bind AV AV (faddr 6 v14) fun v15 =>
 @AM.bind AV AV (ld v15) fun v16 =>
 @AM.bind AV AV (bn Tryz.prog .eql 180 true v16 (.ptr none)) fun v17 =>
 @AM.bind Ans AV (@bcond Ans v17 (
 @bindP AV Ans false (nilC a0) fun v18 =>
 @bindP AV Ans false (faddr 5 v18) fun v19 =>
 @bindP AV Ans false (ld v19) fun v20 =>
 @bindP AV Ans false (sliceA Tryz.prog 22 a1 none (some v13) none) fun v21 =>
 @heavyA true (apnd 1 v20 v21) Ans fun v22 =>
 @bindP AV Ans false (nilC a0) fun v23 =>
 @bindP AV Ans false (faddr 5 v23) fun v24 =>
 @heavyA true (unit2 (st v24 v22)) Ans fun _ =>
 @AM.bind AV Ans (nilC a0) fun v25 =>
 @AM.bind AV Ans (faddr 4 v25) fun v26 =>
 @AM.bind AV Ans (ld v26) fun v27 =>
 @AM.bind AV Ans (bn Tryz.prog .sub 3 false v27 v13) fun v28 =>
 @AM.bind AV Ans (nilC a0) fun v29 =>
 @AM.bind AV Ans (faddr 4 v29) fun v30 =>
 @AM.bind AV Ans (unit2 (st v30 v28)) fun _ =>
 @AM.bind AV Ans (nilC a0) fun v31 =>
 @AM.bind AV Ans (faddr 4 v31) fun v32 =>
 @AM.bind AV Ans (ld v32) fun v33 =>
 @AM.bind AV Ans (bn Tryz.prog .eql 3 true v33 (.int .i64 (.ofNat 0))) fun v34 =>
 @bcond Ans v34 (
 @AM.bind AV Ans (nilC a0) fun v35 =>
 @AM.bind AV Ans (faddr 0 v35) fun v36 =>
 @AM.bind AV Ans (unit2 (st v36 (.int .i64 (.ofNat 3)))) fun _ =>
 @AM.ret Ans (0, [v13])) (
 @AM.ret Ans (0, [v13]))) (
 @AM.bind AV Ans (nilC a0) fun v37 =>
 @AM.bind AV Ans (faddr 6 v37) fun v38 =>
 @AM.bind AV Ans (ld v38) fun v39 =>
 @AM.bind AV Ans (C 217 [v39, a1]) fun v40 =>
 @AM.bind AV Ans (extA v40 0) fun v41 =>
 @AM.bind AV Ans (extA v40 1) fun v42 =>
 @AM.bind AV Ans (extA v40 2) fun v43 =>
 @AM.bind Ans Ans (@bcond Ans v42 (
 @AM.bind AV Ans (nilC a0) fun v44 =>
 @AM.bind AV Ans (faddr 6 v44) fun v45 =>
 @AM.bind AV Ans (ld v45) fun v46 =>
 @AM.bind AV Ans (C 218 [v46]) fun v47 =>
 @AM.bind AV Ans (nilC a0) fun v48 =>
 @AM.bind AV Ans (faddr 5 v48) fun v49 =>
 @AM.bind AV Ans (unit2 (st v49 v47)) fun _ =>
 @AM.bind AV Ans (nilC a0) fun v50 =>
 @AM.bind AV Ans (faddr 0 v50) fun v51 =>
 @AM.bind AV Ans (unit2 (st v51 (.int .i64 (.ofNat 3)))) fun _ =>
 @AM.ret Ans (0, [])) (
 @AM.ret Ans (0, []))) fun r52 =>
 cond (Nat.beq r52.1 0) (
 @AM.bind AV Ans (C 219 [a0, v43]) fun v53 =>
 @AM.ret Ans (0, [v41])) (.bad))) fun r54 =>
 cond (Nat.beq r54.1 0) (
 (fun (v55 : AV) =>
 @AM.bind AV AV (nilC a0) fun v56 =>
 @AM.bind AV AV (faddr 7 v56) fun v57 =>
 @AM.bind AV AV (ld v57) fun v58 =>
 @AM.bind AV AV (bn Tryz.prog .add 3 false v58 v55) fun v59 =>
 @AM.bind AV AV (nilC a0) fun v60 =>
 @AM.bind AV AV (faddr 7 v60) fun v61 =>
 @AM.bind AV AV (unit2 (st v61 v59)) fun _ =>
 @AM.ret AV v55) (g0 r54.2 0)) (.bad))
/- (*usher/head.Head).How -/
noncomputable def F181 (C : CallOp) (Lp : LoopOp) (a0 : AV) : AM AV :=
 @AM.bind AV AV (nw [(.int .i64 (.ofNat 0)), (.int .i64 (.ofNat 0)), (.bool false), (.bool false)]) fun v0 =>
 @AM.bind AV AV (bn Tryz.prog .eql 178 true a0 (.ptr none)) fun v1 =>
 @bcond AV v1 (
 @AM.bind AV AV (bld [(.int .i64 (.ofNat 0)), (.int .i64 (.ofNat 0)), (.bool false), (.bool false)] []) fun v2 =>
 @AM.bind AV AV (unit2 (stN 4 v0 v2)) fun _ =>
 ldN 4 v0) (
 @AM.bind AV AV (nilC a0) fun v3 =>
 @AM.bind AV AV (faddr 10 v3) fun v4 =>
 @AM.bind AV AV (ldN 4 v4) fun v5 =>
 @AM.bind AV AV (unit2 (stN 4 v0 v5)) fun _ =>
 ldN 4 v0)
/- (*usher/field.Fields).All -/
noncomputable def F182 (C : CallOp) (Lp : LoopOp) (a0 : AV) : AM AV :=
 @AM.bind AV AV (bn Tryz.prog .eql 218 true a0 (.ptr none)) fun v0 =>
 @bcond AV v0 (
 @AM.ret AV .snil) (
 @AM.bind AV AV (nilC a0) fun v1 =>
 @AM.bind AV AV (faddr 0 v1) fun v2 =>
 @AM.bind AV AV (ld v2) fun v3 =>
 @AM.bind AV AV (C 220 [v3]) fun v4 =>
 @AM.ret AV v4)
/- (*usher/head.Head).Start -/
noncomputable def F183 (C : CallOp) (Lp : LoopOp) (a0 : AV) : AM AV :=
 @AM.bind AV AV (nw [(.int .i64 (.ofNat 0)), (.str []), (.str []), (.str [])]) fun v0 =>
 @AM.bind AV AV (bn Tryz.prog .eql 178 true a0 (.ptr none)) fun v1 =>
 @bcond AV v1 (
 @AM.bind AV AV (bld [(.int .i64 (.ofNat 0)), (.str []), (.str []), (.str [])] []) fun v2 =>
 @AM.bind AV AV (unit2 (stN 4 v0 v2)) fun _ =>
 @AM.bind (List AV) AV (@AM.bind (List AV) (List AV) (@AM.bind AV (List AV) (ldN 4 v0) fun w3 => @AM.ret (List AV) (w3 :: ((.int .i64 (.ofNat 0)) :: []))) fun w4 => @AM.ret (List AV) ((.str []) :: w4)) fun w5 => @AM.ret AV (.tuple w5)) (
 @bindP AV AV false (nilC a0) fun v6 =>
 @bindP AV AV false (faddr 1 v6) fun v7 =>
 @bindP AV AV false (ld v7) fun v8 =>
 @bindP AV AV false (nilC a0) fun v9 =>
 @bindP AV AV false (faddr 2 v9) fun v10 =>
 @bindP AV AV false (ldN 4 v10) fun v11 =>
 @bindP AV AV false (nilC a0) fun v12 =>
 @bindP AV AV false (faddr 6 v12) fun v13 =>
 fun h15 => @bindP AV AV false (ld v13) (fun v14 =>
 fun h17 => @bindP AV AV true (unit2 (stN 4 v0 v11)) (fun _ h18 => cond (Nat.ble h17.next h18.next && (AV.under h15.next v14 && (sameS (ld v13) v14 h18 && true))) ((
 @AM.bind (List AV) AV (@AM.bind (List AV) (List AV) (@AM.bind AV (List AV) (ldN 4 v0) fun w19 => @AM.ret (List AV) (w19 :: (v14 :: []))) fun w20 => @AM.ret (List AV) (v8 :: w20)) fun w21 => @AM.ret AV (.tuple w21)) h18) .bad) h17) h15)
/- (*usher/route.Router).Match -/
noncomputable def F185 (C : CallOp) (Lp : LoopOp) (a0 a1 a2 : AV) : AM AV :=
 @AM.bind AV AV (C 221 [a0, a2]) fun v0 =>
 @AM.bind AV AV (extA v0 0) fun v1 =>
 @AM.bind AV AV (extA v0 1) fun v2 =>
 @AM.bind AV AV (bn Tryz.prog .eql 191 true v1 .snil) fun v3 =>
 @bcond AV v3 (
 @AM.ret AV (.tuple ((.int .i64 (.ofNat 0)) :: ((.str []) :: (.snil :: ((.int .i64 (.ofNat 404)) :: [])))))) (
 @AM.bind AV AV (C 222 [v1, a1]) fun v4 =>
 @AM.bind AV AV (extA v4 0) fun v5 =>
 @AM.bind AV AV (extA v4 1) fun v6 =>
 @AM.bind AV AV (un .not v6) fun v7 =>
 @AM.bind AV AV (guardA v7 true (.ret a1)) fun v8 =>
 @AM.bind AV AV (guardA v7 true (bn Tryz.prog .eql 9 true v8 (.str [72,69,65,68]))) fun v9 =>
 @AM.bind AV AV (pickA v7 v9 (.bool false)) fun v10 =>
 @AM.bind Ans AV (@bcond Ans v10 (
 @AM.bind AV Ans (C 222 [v1, (.str [71,69,84])]) fun v11 =>
 @AM.bind AV Ans (extA v11 0) fun v12 =>
 @AM.bind AV Ans (extA v11 1) fun v13 =>
 @AM.ret Ans (0, [v12, v13])) (
 @AM.ret Ans (0, [v5, v6]))) fun r14 =>
 cond (Nat.beq r14.1 0) (
 (fun (v15 v16 : AV) =>
 @bcond AV v16 (
 @AM.ret AV (.tuple (v15 :: (v2 :: (.snil :: ((.int .i64 (.ofNat 200)) :: [])))))) (
 @AM.bind AV AV (lenSl v1) fun v17 =>
 @AM.bind Ans AV (Lp (fun l18 =>
 (fun (v19 v20 : AV) =>
 @AM.bind AV Ans (bn Tryz.prog .lss 3 false v20 v17) fun v21 =>
 @bcond Ans v21 (
 @AM.bind AV Ans (iaddrS 2 v1 v20) fun v22 =>
 @AM.bind AV Ans (ldN 2 v22) fun v23 =>
 @AM.bind AV Ans (nw [(.int .i64 (.ofNat 0)), .snil]) fun v24 =>
 @AM.bind AV Ans (unit2 (stN 2 v24 v23)) fun _ =>
 @AM.bind AV Ans (faddr 1 v24) fun v25 =>
 @AM.bind AV Ans (ld v25) fun v26 =>
 @AM.bind AV Ans (apnd 1 v19 v26) fun v27 =>
 @AM.bind AV Ans (bn Tryz.prog .add 3 true v20 (.int .i64 (.ofNat 1))) fun v28 =>
 @AM.ret Ans (0, [v27, v28])) (
 @AM.ret Ans (2, [v19, v20]))) (g0 l18 0) (g0 l18 1)) [.snil, (.int .i64 (.ofNat 0))]) fun r29 =>
 cond (Nat.beq r29.1 2) (
 (fun (v30 v31 : AV) =>
 @AM.bind AV AV (C 127 [v30, (.str [71,69,84])]) fun v32 =>
 @AM.bind Ans AV (@bcond Ans v32 (
 @AM.bind AV Ans (bsl [(.str [])] [(0, 1, (.str [72,69,65,68]))] 1 1) fun v33 =>
 @AM.bind AV Ans (apnd 1 v30 v33) fun v34 =>
 @AM.ret Ans (0, [v34])) (
 @AM.ret Ans (0, [v30]))) fun r35 =>
 cond (Nat.beq r35.1 0) (
 (fun (v36 : AV) =>
 @AM.bind AV AV (C 223 [v36]) fun v37 =>
 @AM.bind AV AV (C 224 [v36]) fun v38 =>
 @AM.ret AV (.tuple ((.int .i64 (.ofNat 0)) :: ((.str []) :: (v38 :: ((.int .i64 (.ofNat 405)) :: [])))))) (g0 r35.2 0)) (.bad)) (g0 r29.2 0) (g0 r29.2 1)) (.bad))) (g0 r14.2 0) (g0 r14.2 1)) (.bad))
/- usher/site.ok -/
noncomputable def F187 (C : CallOp) (Lp : LoopOp) (a0 a1 : AV) : AM AV :=
 @AM.bind AV AV (nw [(.int .i64 (.ofNat 0)), .snil, .snil, .snil]) fun v0 =>
 @AM.bind AV AV (bld [(.str []), (.str [])] [(0, 1, (.str [67,111,110,116,101,110,116,45,84,121,112,101])), (1, 1, a0)]) fun v1 =>
 @AM.bind AV AV (bsl [(.str []), (.str [])] [(0, 2, v1)] 1 2) fun v2 =>
 @AM.bind AV AV (bld [(.int .i64 (.ofNat 0)), .snil, .snil, .snil] [(0, 1, (.int .i64 (.ofNat 200))), (1, 1, v2), (2, 1, a1)]) fun v3 =>
 @AM.bind AV AV (unit2 (stN 4 v0 v3)) fun _ =>
 ldN 4 v0
/- strings.HasPrefix -/
noncomputable def F188 (C : CallOp) (Lp : LoopOp) (a0 a1 : AV) : AM AV :=
 @AM.bind AV AV (C 226 [a0, a1]) fun v0 =>
 @AM.ret AV v0
/- (*usher/field.Fields).Add -/
noncomputable def F197 (C : CallOp) (Lp : LoopOp) (a0 a1 : AV) : AM AV :=
 @AM.bind AV AV (bn Tryz.prog .eql 218 true a0 (.ptr none)) fun v0 =>
 @bcond AV v0 (
 @AM.ret AV (.tuple ((.int .i64 (.ofNat 0)) :: ((.int .i64 (.ofNat 1)) :: [])))) (
 @AM.bind AV AV (lenSl a1) fun v1 =>
 @AM.bind Ans AV (Lp (fun l2 =>
 (fun (v3 v4 v5 : AV) =>
 @AM.bind AV Ans (bn Tryz.prog .lss 3 false v5 v1) fun v6 =>
 @bcond Ans v6 (
 @AM.bind AV Ans (iaddrS 2 a1 v5) fun v7 =>
 @AM.bind AV Ans (ldN 2 v7) fun v8 =>
 @AM.bind AV Ans (nw [(.str []), (.str [])]) fun v9 =>
 @AM.bind AV Ans (unit2 (stN 2 v9 v8)) fun _ =>
 @AM.bind AV Ans (ldN 2 v9) fun v10 =>
 @AM.bind AV Ans (C 232 [v10]) fun v11 =>
 @AM.bind AV Ans (un .not v11) fun v12 =>
 @bcond Ans v12 (
 @AM.ret Ans (1, [v5, (.int .i64 (.ofNat 8)), v5])) (
 @AM.bind AV Ans (nilC a0) fun v13 =>
 @AM.bind AV Ans (faddr 0 v13) fun v14 =>
 @AM.bind AV Ans (ld v14) fun v15 =>
 @AM.bind AV Ans (lenSl v15) fun v16 =>
 @AM.bind AV Ans (bn Tryz.prog .geq 3 true v16 (.int .i64 (.ofNat 24))) fun v17 =>
 @bcond Ans v17 (
 @AM.ret Ans (1, [v5, (.int .i64 (.ofNat 3)), v5])) (
 @bindP AV Ans false (nilC a0) fun v18 =>
 @bindP AV Ans false (faddr 0 v18) fun v19 =>
 @bindP AV Ans false (ld v19) fun v20 =>
 @bindP AV Ans false (ldN 2 v9) fun v21 =>
 @bindP AV Ans false (bsl [(.str []), (.str [])] [(0, 2, v21)] 1 2) fun v22 =>
 @heavyA true (apnd 2 v20 v22) Ans fun v23 =>
 @bindP AV Ans false (nilC a0) fun v24 =>
 @bindP AV Ans false (faddr 0 v24) fun v25 =>
 @heavyA true (unit2 (st v25 v23)) Ans fun _ =>
 @AM.bind AV Ans (bn Tryz.prog .add 3 true v5 (.int .i64 (.ofNat 1))) fun v26 =>
 @AM.ret Ans (0, [v3, v4, v26])))) (
 @AM.ret Ans (2, [v3, v4, v5]))) (g0 l2 0) (g0 l2 1) (g0 l2 2)) [(.int .i64 (.ofNat 0)), (.int .i64 (.ofNat 0)), (.int .i64 (.ofNat 0))]) fun r27 =>
 cond (Nat.beq r27.1 2) (
 (fun (v28 v29 v30 : AV) =>
 @AM.bind AV AV (lenSl a1) fun v31 =>
 @AM.ret AV (.tuple (v31 :: ((.int .i64 (.ofNat 0)) :: [])))) (g0 r27.2 0) (g0 r27.2 1) (g0 r27.2 2)) (cond (Nat.beq r27.1 1) (
 (fun (v32 v33 v34 : AV) =>
 @AM.ret AV (.tuple (v32 :: (v33 :: [])))) (g0 r27.2 0) (g0 r27.2 1) (g0 r27.2 2)) (.bad)))
/- usher/reply.isOurs -/
noncomputable def F198 (C : CallOp) (Lp : LoopOp) (a0 : AV) : AM AV :=
 @AM.bind AV AV (C 233 [a0, (.str [84,114,97,110,115,102,101,114,45,69,110,99,111,100,105,110,103])]) fun v0 =>
 @AM.bind AV AV (guardA v0 false (.ret a0)) fun v1 =>
 @AM.bind AV AV (guardA v0 false (C 233 [v1, (.str [67,111,110,116,101,110,116,45,76,101,110,103,116,104])])) fun v2 =>
 @AM.bind AV AV (pickA v0 (.bool true) v2) fun v3 =>
 @AM.bind AV AV (guardA v3 false (.ret a0)) fun v4 =>
 @AM.bind AV AV (guardA v3 false (C 233 [v4, (.str [67,111,110,110,101,99,116,105,111,110])])) fun v5 =>
 @AM.bind AV AV (pickA v3 (.bool true) v5) fun v6 =>
 @AM.ret AV v6
/- (*strings.Builder).WriteString -/
noncomputable def F201 (C : CallOp) (Lp : LoopOp) (a0 a1 : AV) : AM AV :=
 @AM.bind AV AV (C 235 [a0]) fun v0 =>
 @AM.bind AV AV (nilC a0) fun v1 =>
 @AM.bind AV AV (faddr 1 v1) fun v2 =>
 @AM.bind AV AV (ld v2) fun v3 =>
 @AM.bind AV AV (apnd 1 v3 a1) fun v4 =>
 @AM.bind AV AV (nilC a0) fun v5 =>
 @AM.bind AV AV (faddr 1 v5) fun v6 =>
 @AM.bind AV AV (unit2 (st v6 v4)) fun _ =>
 @AM.bind AV AV (lenStr a1) fun v7 =>
 @AM.ret AV (.tuple (v7 :: (.nilIface :: [])))
/- internal/strconv.Itoa -/
noncomputable def F203 (C : CallOp) (Lp : LoopOp) (a0 : AV) : AM AV :=
 @AM.bind AV AV (C 237 [a0, (.int .i64 (.ofNat 10))]) fun v0 =>
 @AM.ret AV v0
/- strings.genSplit -/
noncomputable def F204 (C : CallOp) (Lp : LoopOp) (a0 a1 a2 a3 : AV) : AM AV :=
 @AM.bind AV AV (bn Tryz.prog .eql 3 true a3 (.int .i64 (.ofNat 0))) fun v0 =>
 @bcond AV v0 (
 @AM.ret AV .snil) (
 @AM.bind AV AV (bn Tryz.prog .eql 9 true a1 (.str [])) fun v1 =>
 @bcond AV v1 (
 @AM.bind AV AV (C 238 [a0, a3]) fun v2 =>
 @AM.ret AV v2) (
 @AM.bind AV AV (bn Tryz.prog .lss 3 true a3 (.int .i64 (.ofNat 0))) fun v3 =>
 @AM.bind Ans AV (@bcond Ans v3 (
 @AM.bind AV Ans (C 239 [a0, a1]) fun v4 =>
 @AM.bind AV Ans (bn Tryz.prog .add 3 true v4 (.int .i64 (.ofNat 1))) fun v5 =>
 @AM.ret Ans (0, [v5])) (
 @AM.ret Ans (0, [a3]))) fun r6 =>
 cond (Nat.beq r6.1 0) (
 (fun (v7 : AV) =>
 @AM.bind AV AV (lenStr a0) fun v8 =>
 @AM.bind AV AV (bn Tryz.prog .add 3 true v8 (.int .i64 (.ofNat 1))) fun v9 =>
 @AM.bind AV AV (ofOpt (minA v7 [v9])) fun v10 =>
 @AM.bind AV AV (makeSliceA Tryz.prog 143 v10 v10) fun v11 =>
 @AM.bind AV AV (bn Tryz.prog .sub 3 true v10 (.int .i64 (.ofNat 1))) fun v12 =>
 @AM.bind Ans AV (Lp (fun l13 =>
 (fun (v14 v15 : AV) =>
 @AM.bind AV Ans (bn Tryz.prog .lss 3 false v15 v12) fun v16 =>
 @bcond Ans v16 (
 @AM.bind AV Ans (C 240 [v14, a1]) fun v17 =>
 @AM.bind AV Ans (bn Tryz.prog .lss 3 true v17 (.int .i64 (.ofNat 0))) fun v18 =>
 @bcond Ans v18 (
 @AM.ret Ans (2, [v14, v15])) (
 @AM.bind AV Ans (bn Tryz.prog .add 3 false v17 a2) fun v19 =>
 @AM.bind AV Ans (sliceA Tryz.prog 9 v14 none (some v19) none) fun v20 =>
 @AM.bind AV Ans (iaddrS 1 v11 v15) fun v21 =>
 @AM.bind AV Ans (unit2 (st v21 v20)) fun _ =>
 @AM.bind AV Ans (lenStr a1) fun v22 =>
 @AM.bind AV Ans (bn Tryz.prog .add 3 false v17 v22) fun v23 =>
 @AM.bind AV Ans (sliceA Tryz.prog 9 v14 (some v23) none none) fun v24 =>
 @AM.bind AV Ans (bn Tryz.prog .add 3 true v15 (.int .i64 (.ofNat 1))) fun v25 =>
 @AM.ret Ans (0, [v24, v25]))) (
 @AM.ret Ans (2, [v14, v15]))) (g0 l13 0) (g0 l13 1)) [a0, (.int .i64 (.ofNat 0))]) fun r26 =>
 cond (Nat.beq r26.1 2) (
 (fun (v27 v28 : AV) =>
 @AM.bind AV AV (iaddrS 1 v11 v28) fun v29 =>
 @AM.bind AV AV (unit2 (st v29 v27)) fun _ =>
 @AM.bind AV AV (bn Tryz.prog .add 3 true v28 (.int .i64 (.ofNat 1))) fun v30 =>
 @AM.bind AV AV (sliceA Tryz.prog 143 v11 none (some v30) none) fun v31 =>
 @AM.ret AV v31) (g0 r26.2 0) (g0 r26.2 1)) (.bad)) (g0 r6.2 0)) (.bad)))
/- strings.makeASCIISet -/
noncomputable def F207 (C : CallOp) (Lp : LoopOp) (a0 : AV) : AM AV :=
 @AM.bind AV AV (nw [(.bool false), (.bool false), (.bool false), (.bool false), (.bool false), (.bool false), (.bool false), (.bool false), (.bool false), (.bool false), (.bool false), (.bool false), (.bool false), (.bool false), (.bool false), (.bool false), (.bool false), (.bool false), (.bool false), (.bool false), (.bool false), (.bool false), (.bool false), (.bool false), (.bool false), (.bool false), (.bool false), (.bool false), (.bool false), (.bool false), (.bool false), (.bool false), (.bool false), (.bool false), (.bool false), (.bool false), (.bool false), (.bool false), (.bool false), (.bool false), (.bool false), (.bool false), (.bool false), (.bool false), (.bool false), (.bool false), (.bool false), (.bool false), (.bool false), (.bool false), (.bool false), (.bool false), (.bool false), (.bool false), (.bool false), (.bool false), (.bool false), (.bool false), (.bool false), (.bool false), (.bool false), (.bool false), (.bool false), (.bool false), (.bool false), (.bool false), (.bool false), (.bool false), (.bool false), (.bool false), (.bool false), (.bool false), (.bool false), (.bool false), (.bool false), (.bool false), (.bool false), (.bool false), (.bool false), (.bool false), (.bool false), (.bool false), (.bool false), (.bool false), (.bool false), (.bool false), (.bool false), (.bool false), (.bool false), (.bool false), (.bool false), (.bool false), (.bool false), (.bool false), (.bool false), (.bool false), (.bool false), (.bool false), (.bool false), (.bool false), (.bool false), (.bool false), (.bool false), (.bool false), (.bool false), (.bool false), (.bool false), (.bool false), (.bool false), (.bool false), (.bool false), (.bool false), (.bool false), (.bool false), (.bool false), (.bool false), (.bool false), (.bool false), (.bool false), (.bool false), (.bool false), (.bool false), (.bool false), (.bool false), (.bool false), (.bool false), (.bool false), (.bool false), (.bool false), (.bool false), (.bool false), (.bool false), (.bool false), (.bool false), (.bool false), (.bool false), (.bool false), (.bool false), (.bool false), (.bool false), (.bool false), (.bool false), (.bool false), (.bool false), (.bool false), (.bool false), (.bool false), (.bool false), (.bool false), (.bool false), (.bool false), (.bool false), (.bool false), (.bool false), (.bool false), (.bool false), (.bool false), (.bool false), (.bool false), (.bool false), (.bool false), (.bool false), (.bool false), (.bool false), (.bool false), (.bool false), (.bool false), (.bool false), (.bool false), (.bool false), (.bool false), (.bool false), (.bool false), (.bool false), (.bool false), (.bool false), (.bool false), (.bool false), (.bool false), (.bool false), (.bool false), (.bool false), (.bool false), (.bool false), (.bool false), (.bool false), (.bool false), (.bool false), (.bool false), (.bool false), (.bool false), (.bool false), (.bool false), (.bool false), (.bool false), (.bool false), (.bool false), (.bool false), (.bool false), (.bool false), (.bool false), (.bool false), (.bool false), (.bool false), (.bool false), (.bool false), (.bool false), (.bool false), (.bool false), (.bool false), (.bool false), (.bool false), (.bool false), (.bool false), (.bool false), (.bool false), (.bool false), (.bool false), (.bool false), (.bool false), (.bool false), (.bool false), (.bool false), (.bool false), (.bool false), (.bool false), (.bool false), (.bool false), (.bool false), (.bool false), (.bool false), (.bool false), (.bool false), (.bool false), (.bool false), (.bool false), (.bool false), (.bool false), (.bool false), (.bool false), (.bool false), (.bool false), (.bool false), (.bool false), (.bool false), (.bool false), (.bool false), (.bool false), (.bool false), (.bool false), (.bool false), (.bool false), (.bool false), (.bool false), (.bool false), (.bool false)]) fun v0 =>
 @AM.bind Ans AV (Lp (fun l1 =>
 (fun (v2 v3 : AV) =>
 @AM.bind AV Ans (lenStr a0) fun v4 =>
 @AM.bind AV Ans (bn Tryz.prog .lss 3 false v3 v4) fun v5 =>
 @bcond Ans v5 (
 @AM.bind AV Ans (sIdx a0 v3) fun v6 =>
 @AM.bind AV Ans (bn Tryz.prog .geq 5 true v6 (.int .u8 (.ofNat 128))) fun v7 =>
 @bcond Ans v7 (
 @AM.bind AV Ans (ldN 256 v0) fun v8 =>
 @AM.bind AV Ans (unit2 (stN 256 v0 v8)) fun _ =>
 @AM.ret Ans (1, [(.bool false), v3])) (
 @AM.bind AV Ans (iaddrA 256 1 v0 v6) fun v9 =>
 @AM.bind AV Ans (unit2 (st v9 (.bool true))) fun _ =>
 @AM.bind AV Ans (bn Tryz.prog .add 3 true v3 (.int .i64 (.ofNat 1))) fun v10 =>
 @AM.ret Ans (0, [v2, v10]))) (
 @AM.ret Ans (2, [v2, v3]))) (g0 l1 0) (g0 l1 1)) [(.bool false), (.int .i64 (.ofNat 0))]) fun r11 =>
 cond (Nat.beq r11.1 2) (
 (fun (v12 v13 : AV) =>
 @AM.bind AV AV (ldN 256 v0) fun v14 =>
 @AM.bind AV AV (unit2 (stN 256 v0 v14)) fun _ =>
 @AM.bind (List AV) AV (@AM.bind AV (List AV) (ldN 256 v0) fun w15 => @AM.ret (List AV) (w15 :: ((.bool true) :: []))) fun w16 => @AM.ret AV (.tuple w16)) (g0 r11.2 0) (g0 r11.2 1)) (cond (Nat.beq r11.1 1) (
 (fun (v17 v18 : AV) =>
 @AM.bind (List AV) AV (@AM.bind AV (List AV) (ldN 256 v0) fun w19 => @AM.ret (List AV) (w19 :: (v17 :: []))) fun w20 => @AM.ret AV (.tuple w20)) (g0 r11.2 0) (g0 r11.2 1)) (.bad))
/- strings.trimLeftASCII -/
noncomputable def F208 (C : CallOp) (Lp : LoopOp) (a0 a1 : AV) : AM AV :=
 @AM.bind Ans AV (Lp (fun l0 =>
 (fun (v1 : AV) =>
 @AM.bind AV Ans (lenStr v1) fun v2 =>
 @AM.bind AV Ans (bn Tryz.prog .gtr 3 true v2 (.int .i64 (.ofNat 0))) fun v3 =>
 @bcond Ans v3 (
 @AM.bind AV Ans (sIdx v1 (.int .i64 (.ofNat 0))) fun v4 =>
 @AM.bind AV Ans (C 241 [a1, v4]) fun v5 =>
 @AM.bind AV Ans (un .not v5) fun v6 =>
 @bcond Ans v6 (
 @AM.ret Ans (2, [v1])) (
 @AM.bind AV Ans (sliceA Tryz.prog 9 v1 (some (.int .i64 (.ofNat 1))) none none) fun v7 =>
 @AM.ret Ans (0, [v7]))) (
 @AM.ret Ans (2, [v1]))) (g0 l0 0)) [a0]) fun r8 =>
 cond (Nat.beq r8.1 2) (
 (fun (v9 : AV) =>
 @AM.ret AV v9) (g0 r8.2 0)) (.bad)
/- strings.trimRightASCII -/
noncomputable def F209 (C : CallOp) (Lp : LoopOp) (a0 a1 : AV) : AM AV :=
 @AM.bind Ans AV (Lp (fun l0 =>
 (fun (v1 : AV) =>
 @AM.bind AV Ans (lenStr v1) fun v2 =>
 @AM.bind AV Ans (bn Tryz.prog .gtr 3 true v2 (.int .i64 (.ofNat 0))) fun v3 =>
 @bcond Ans v3 (
 @AM.bind AV Ans (lenStr v1) fun v4 =>
 @AM.bind AV Ans (bn Tryz.prog .sub 3 true v4 (.int .i64 (.ofNat 1))) fun v5 =>
 @AM.bind AV Ans (sIdx v1 v5) fun v6 =>
 @AM.bind AV Ans (C 241 [a1, v6]) fun v7 =>
 @AM.bind AV Ans (un .not v7) fun v8 =>
 @bcond Ans v8 (
 @AM.ret Ans (2, [v1])) (
 @AM.bind AV Ans (lenStr v1) fun v9 =>
 @AM.bind AV Ans (bn Tryz.prog .sub 3 true v9 (.int .i64 (.ofNat 1))) fun v10 =>
 @AM.bind AV Ans (sliceA Tryz.prog 9 v1 none (some v10) none) fun v11 =>
 @AM.ret Ans (0, [v11]))) (
 @AM.ret Ans (2, [v1]))) (g0 l0 0)) [a0]) fun r12 =>
 cond (Nat.beq r12.1 2) (
 (fun (v13 : AV) =>
 @AM.ret AV v13) (g0 r12.2 0)) (.bad)
/- usher/ascii.isUpper -/
noncomputable def F212 (C : CallOp) (Lp : LoopOp) (a0 : AV) : AM AV :=
 @AM.bind AV AV (bn Tryz.prog .geq 5 true a0 (.int .u8 (.ofNat 65))) fun v0 =>
 @AM.bind AV AV (guardA v0 true (.ret a0)) fun v1 =>
 @AM.bind AV AV (guardA v0 true (bn Tryz.prog .leq 5 true v1 (.int .u8 (.ofNat 90)))) fun v2 =>
 @AM.bind AV AV (pickA v0 v2 (.bool false)) fun v3 =>
 @AM.ret AV v3
/- internal/stringslite.IndexByte -/
noncomputable def F213 (C : CallOp) (Lp : LoopOp) (a0 a1 : AV) : AM AV :=
 @AM.bind AV AV (C 245 [a0, a1]) fun v0 =>
 @AM.ret AV v0
/- usher/usherref1.Alnum -/
noncomputable def F214 (C : CallOp) (Lp : LoopOp) (a0 : AV) : AM AV :=
 @AM.bind AV AV (bn Tryz.prog .geq 5 true a0 (.int .u8 (.ofNat 97))) fun v0 =>
 @AM.bind AV AV (guardA v0 true (.ret a0)) fun v1 =>
 @AM.bind AV AV (guardA v0 true (bn Tryz.prog .leq 5 true v1 (.int .u8 (.ofNat 122)))) fun v2 =>
 @AM.bind AV AV (pickA v0 v2 (.bool false)) fun v3 =>
 @AM.bind AV AV (guardA v3 false (.ret a0)) fun v4 =>
 @AM.bind AV AV (guardA v3 false (bn Tryz.prog .geq 5 true v4 (.int .u8 (.ofNat 65)))) fun v5 =>
 @AM.bind AV AV (guardA v3 false (.ret v5)) fun v6 =>
 @AM.bind AV AV (guardA v6 true (.ret a0)) fun v7 =>
 @AM.bind AV AV (guardA v6 true (bn Tryz.prog .leq 5 true v7 (.int .u8 (.ofNat 90)))) fun v8 =>
 @AM.bind AV AV (guardA v3 false (pickA v6 v8 (.bool false))) fun v9 =>
 @AM.bind AV AV (pickA v3 (.bool true) v9) fun v10 =>
 @AM.bind AV AV (guardA v10 false (.ret a0)) fun v11 =>
 @AM.bind AV AV (guardA v10 false (bn Tryz.prog .geq 5 true v11 (.int .u8 (.ofNat 48)))) fun v12 =>
 @AM.bind AV AV (guardA v10 false (.ret v12)) fun v13 =>
 @AM.bind AV AV (guardA v13 true (.ret a0)) fun v14 =>
 @AM.bind AV AV (guardA v13 true (bn Tryz.prog .leq 5 true v14 (.int .u8 (.ofNat 57)))) fun v15 =>
 @AM.bind AV AV (guardA v10 false (pickA v13 v15 (.bool false))) fun v16 =>
 @AM.bind AV AV (pickA v10 (.bool true) v16) fun v17 =>
 @AM.ret AV v17
/- (*usher/parse.Parser).inHead -/
noncomputable def F216 (C : CallOp) (Lp : LoopOp) (a0 a1 : AV) : AM AV :=
 @AM.bind AV AV (nilC a0) fun v0 =>
 @AM.bind AV AV (faddr 2 v0) fun v1 =>
 @AM.bind AV AV (ld v1) fun v2 =>
 @AM.bind AV AV (lenSl v2) fun v3 =>
 @AM.bind AV AV (bn Tryz.prog .neq 5 true a1 (.int .u8 (.ofNat 10))) fun v4 =>
 @bcond AV v4 (
 @AM.bind AV AV (nilC a0) fun v5 =>
 @AM.bind AV AV (faddr 2 v5) fun v6 =>
 @AM.bind AV AV (ld v6) fun v7 =>
 @AM.bind AV AV (bsl [(.int .u8 (.ofNat 0))] [(0, 1, a1)] 1 1) fun v8 =>
 @AM.bind AV AV (apnd 1 v7 v8) fun v9 =>
 @AM.bind AV AV (nilC a0) fun v10 =>
 @AM.bind AV AV (faddr 2 v10) fun v11 =>
 @AM.bind AV AV (unit2 (st v11 v9)) fun _ =>
 @AM.bind AV AV (bn Tryz.prog .neq 5 true a1 (.int .u8 (.ofNat 13))) fun v12 =>
 @AM.bind Ans AV (@bcond Ans v12 (
 @AM.bind AV Ans (bn Tryz.prog .add 3 true v3 (.int .i64 (.ofNat 1))) fun v13 =>
 @AM.ret Ans (0, [v13])) (
 @AM.ret Ans (0, [v3]))) fun r14 =>
 cond (Nat.beq r14.1 0) (
 (fun (v15 : AV) =>
 @AM.bind AV AV (bn Tryz.prog .gtr 3 true v15 (.int .i64 (.ofNat 256))) fun v16 =>
 @AM.bind Ans AV (@bcond Ans v16 (
 @AM.bind AV Ans (C 246 [a0]) fun v17 =>
 @AM.bind AV Ans (C 219 [a0, v17]) fun v18 =>
 @AM.ret Ans (0, [])) (
 @AM.ret Ans (0, []))) fun r19 =>
 cond (Nat.beq r19.1 0) (
 @AM.ret AV (.tuple [])) (.bad)) (g0 r14.2 0)) (.bad)) (
 @AM.bind AV AV (bn Tryz.prog .eql 3 true v3 (.int .i64 (.ofNat 0))) fun v20 =>
 @AM.bind AV AV (guardA v20 false (.ret a0)) fun v21 =>
 @AM.bind AV AV (guardA v20 false (nilC v21)) fun v22 =>
 @AM.bind AV AV (guardA v20 false (faddr 2 v22)) fun v23 =>
 @AM.bind AV AV (guardA v20 false (ld v23)) fun v24 =>
 @AM.bind AV AV (guardA v20 false (.ret v3)) fun v25 =>
 @AM.bind AV AV (guardA v20 false (bn Tryz.prog .sub 3 true v25 (.int .i64 (.ofNat 1)))) fun v26 =>
 @AM.bind AV AV (guardA v20 false (iaddrS 1 v24 v26)) fun v27 =>
 @AM.bind AV AV (guardA v20 false (ld v27)) fun v28 =>
 @AM.bind AV AV (guardA v20 false (bn Tryz.prog .neq 5 true v28 (.int .u8 (.ofNat 13)))) fun v29 =>
 @AM.bind AV AV (pickA v20 (.bool true) v29) fun v30 =>
 @bcond AV v30 (
 @AM.bind AV AV (C 219 [a0, (.int .i64 (.ofNat 400))]) fun v31 =>
 @AM.ret AV (.tuple [])) (
 @AM.bind AV AV (nilC a0) fun v32 =>
 @AM.bind AV AV (faddr 2 v32) fun v33 =>
 @AM.bind AV AV (ld v33) fun v34 =>
 @AM.bind AV AV (bn Tryz.prog .sub 3 true v3 (.int .i64 (.ofNat 1))) fun v35 =>
 @AM.bind AV AV (sliceA Tryz.prog 22 v34 none (some v35) none) fun v36 =>
 @AM.bind AV AV (convA Tryz.prog 22 9 v36) fun v37 =>
 @AM.bind AV AV (nilC a0) fun v38 =>
 @AM.bind AV AV (faddr 2 v38) fun v39 =>
 @AM.bind AV AV (ld v39) fun v40 =>
 @AM.bind AV AV (sliceA Tryz.prog 22 v40 none (some (.int .i64 (.ofNat 0))) none) fun v41 =>
 @AM.bind AV AV (nilC a0) fun v42 =>
 @AM.bind AV AV (faddr 2 v42) fun v43 =>
 @AM.bind AV AV (unit2 (st v43 v41)) fun _ =>
 @AM.bind AV AV (nilC a0) fun v44 =>
 @AM.bind AV AV (faddr 3 v44) fun v45 =>
 @AM.bind AV AV (ld v45) fun v46 =>
 @AM.bind AV AV (C 247 [v46, v37]) fun v47 =>
 @AM.bind AV AV (extA v47 0) fun v48 =>
 @AM.bind AV AV (extA v47 1) fun v49 =>
 @AM.bind AV AV (C 219 [a0, v49]) fun v50 =>
 @bcond AV v48 (
 @AM.bind AV AV (C 248 [a0]) fun v51 =>
 @AM.ret AV (.tuple [])) (
 @AM.ret AV (.tuple []))))
/- (*usher/parse.Parser).refuses -/
noncomputable def F219 (C : CallOp) (Lp : LoopOp) (a0 a1 : AV) : AM AV :=
 @AM.bind AV AV (bn Tryz.prog .neq 3 true a1 (.int .i64 (.ofNat 0))) fun v0 =>
 @bcond AV v0 (
 @AM.bind AV AV (nilC a0) fun v1 =>
 @AM.bind AV AV (faddr 0 v1) fun v2 =>
 @AM.bind AV AV (unit2 (st v2 (.int .i64 (.ofNat 4)))) fun _ =>
 @AM.bind AV AV (nilC a0) fun v3 =>
 @AM.bind AV AV (faddr 1 v3) fun v4 =>
 @AM.bind AV AV (unit2 (st v4 a1)) fun _ =>
 @AM.ret AV (.tuple [])) (
 @AM.ret AV (.tuple []))
/- slices.Clone[[]usher/api.Field,usher/api.Field] -/
noncomputable def F220 (C : CallOp) (Lp : LoopOp) (a0 : AV) : AM AV :=
 @AM.bind AV AV (bn Tryz.prog .eql 117 true a0 .snil) fun v0 =>
 @bcond AV v0 (
 @AM.ret AV .snil) (
 @AM.bind AV AV (AM.ret .szero) fun v1 =>
 @AM.bind AV AV (apnd 2 v1 a0) fun v2 =>
 @AM.ret AV v2)
/- (*usher/route.Router).find -/
noncomputable def F221 (C : CallOp) (Lp : LoopOp) (a0 a1 : AV) : AM AV :=
 @AM.bind AV AV (bn Tryz.prog .eql 127 true a0 (.ptr none)) fun v0 =>
 @bcond AV v0 (
 @AM.ret AV (.tuple (.snil :: ((.str []) :: [])))) (
 @AM.bind AV AV (nilC a0) fun v1 =>
 @AM.bind AV AV (faddr 0 v1) fun v2 =>
 @AM.bind AV AV (ld v2) fun v3 =>
 @AM.bind AV AV (lookA Tryz.prog 186 v3 a1 false) fun v4 =>
 @AM.bind AV AV (bn Tryz.prog .neq 191 true v4 .snil) fun v5 =>
 @bcond AV v5 (
 @AM.ret AV (.tuple (v4 :: ((.str []) :: [])))) (
 @AM.bind AV AV (lenStr a1) fun v6 =>
 @AM.bind AV AV (bn Tryz.prog .sub 3 true v6 (.int .i64 (.ofNat 1))) fun v7 =>
 @AM.bind Ans AV (Lp (fun l8 =>
 (fun (v9 v10 v11 : AV) =>
 @AM.bind AV Ans (bn Tryz.prog .geq 3 true v11 (.int .i64 (.ofNat 0))) fun v12 =>
 @bcond Ans v12 (
 @bindP AV Ans false (sIdx a1 v11) fun v13 =>
 @bindP AV Ans false (bn Tryz.prog .eql 5 true v13 (.int .u8 (.ofNat 47))) fun v14 =>
 @bindP AV Ans false (guardA v14 true (.ret a0)) fun v15 =>
 @bindP AV Ans false (guardA v14 true (nilC v15)) fun v16 =>
 @bindP AV Ans false (guardA v14 true (faddr 1 v16)) fun v17 =>
 @bindP AV Ans false (guardA v14 true (ld v17)) fun v18 =>
 @bindP AV Ans false (guardA v14 true (.ret a1)) fun v19 =>
 @bindP AV Ans false (guardA v14 true (.ret v11)) fun v20 =>
 @bindP AV Ans false (guardA v14 true (bn Tryz.prog .add 3 true v20 (.int .i64 (.ofNat 1)))) fun v21 =>
 @bindP AV Ans false (guardA v14 true (sliceA Tryz.prog 9 v19 none (some v21) none)) fun v22 =>
 @bindP AV Ans false (guardA v14 true (lookA Tryz.prog 186 v18 v22 false)) fun v23 =>
 @bindP AV Ans false (guardA v14 true (bn Tryz.prog .neq 191 true v23 .snil)) fun v24 =>
 @bindP AV Ans false (pickA v14 v24 (.bool false)) fun v25 =>
 @bcond Ans v25 (
 @bindP AV Ans false (nilC a0) fun v26 =>
 @bindP AV Ans false (faddr 1 v26) fun v27 =>
 @bindP AV Ans false (ld v27) fun v28 =>
 @bindP AV Ans false (bn Tryz.prog .add 3 true v11 (.int .i64 (.ofNat 1))) fun v29 =>
 @bindP AV Ans false (sliceA Tryz.prog 9 a1 none (some v29) none) fun v30 =>
 @bindP AV Ans false (lookA Tryz.prog 186 v28 v30 false) fun v31 =>
 @bindP AV Ans false (bn Tryz.prog .add 3 true v11 (.int .i64 (.ofNat 1))) fun v32 =>
 @bindP AV Ans false (sliceA Tryz.prog 9 a1 (some v32) none none) fun v33 =>
 @AM.ret Ans (1, [v31, v33, v11])) (
 @AM.bind AV Ans (bn Tryz.prog .sub 3 true v11 (.int .i64 (.ofNat 1))) fun v34 =>
 @AM.ret Ans (0, [v9, v10, v34]))) (
 @AM.ret Ans (2, [v9, v10, v11]))) (g0 l8 0) (g0 l8 1) (g0 l8 2)) [.snil, (.str []), v7]) fun r35 =>
 cond (Nat.beq r35.1 2) (
 (fun (v36 v37 v38 : AV) =>
 @AM.ret AV (.tuple (.snil :: ((.str []) :: [])))) (g0 r35.2 0) (g0 r35.2 1) (g0 r35.2 2)) (cond (Nat.beq r35.1 1) (
 (fun (v39 v40 v41 : AV) =>
 @AM.ret AV (.tuple (v39 :: (v40 :: [])))) (g0 r35.2 0) (g0 r35.2 1) (g0 r35.2 2)) (.bad))))
/- usher/route.of -/
noncomputable def F222 (C : CallOp) (Lp : LoopOp) (a0 a1 : AV) : AM AV :=
 @AM.bind AV AV (lenSl a0) fun v0 =>
 @AM.bind Ans AV (Lp (fun l1 =>
 (fun (v2 v3 v4 : AV) =>
 @AM.bind AV Ans (bn Tryz.prog .lss 3 false v4 v0) fun v5 =>
 @bcond Ans v5 (
 @AM.bind AV Ans (iaddrS 2 a0 v4) fun v6 =>
 @AM.bind AV Ans (ldN 2 v6) fun v7 =>
 @AM.bind AV Ans (nw [(.int .i64 (.ofNat 0)), .snil]) fun v8 =>
 @AM.bind AV Ans (unit2 (stN 2 v8 v7)) fun _ =>
 @AM.bind AV Ans (faddr 1 v8) fun v9 =>
 @AM.bind AV Ans (ld v9) fun v10 =>
 @AM.bind AV Ans (lenSl v10) fun v11 =>
 @AM.bind AV Ans (bn Tryz.prog .eql 3 true v11 (.int .i64 (.ofNat 0))) fun v12 =>
 @AM.bind AV Ans (guardA v12 false (faddr 1 v8)) fun v13 =>
 @AM.bind AV Ans (guardA v12 false (ld v13)) fun v14 =>
 @AM.bind AV Ans (guardA v12 false (.ret a1)) fun v15 =>
 @AM.bind AV Ans (guardA v12 false (C 127 [v14, v15])) fun v16 =>
 @AM.bind AV Ans (pickA v12 (.bool true) v16) fun v17 =>
 @bcond Ans v17 (
 @AM.bind AV Ans (faddr 0 v8) fun v18 =>
 @AM.bind AV Ans (ld v18) fun v19 =>
 @AM.ret Ans (1, [v19, (.bool true), v4])) (
 @AM.bind AV Ans (bn Tryz.prog .add 3 true v4 (.int .i64 (.ofNat 1))) fun v20 =>
 @AM.ret Ans (0, [v2, v3, v20]))) (
 @AM.ret Ans (2, [v2, v3, v4]))) (g0 l1 0) (g0 l1 1) (g0 l1 2)) [(.int .i64 (.ofNat 0)), (.bool false), (.int .i64 (.ofNat 0))]) fun r21 =>
 cond (Nat.beq r21.1 2) (
 (fun (v22 v23 v24 : AV) =>
 @AM.ret AV (.tuple ((.int .i64 (.ofNat 0)) :: ((.bool false) :: [])))) (g0 r21.2 0) (g0 r21.2 1) (g0 r21.2 2)) (cond (Nat.beq r21.1 1) (
 (fun (v25 v26 v27 : AV) =>
 @AM.ret AV (.tuple (v25 :: (v26 :: [])))) (g0 r21.2 0) (g0 r21.2 1) (g0 r21.2 2)) (.bad))
/- (*usher/field.Fields).Values -/
noncomputable def F225 (C : CallOp) (Lp : LoopOp) (a0 a1 : AV) : AM AV :=
 @AM.bind AV AV (bn Tryz.prog .neq 218 true a0 (.ptr none)) fun v0 =>
 @AM.bind Ans AV (@bcond Ans v0 (
 @AM.bind AV Ans (nilC a0) fun v1 =>
 @AM.bind AV Ans (faddr 0 v1) fun v2 =>
 @AM.bind AV Ans (ld v2) fun v3 =>
 @AM.bind AV Ans (lenSl v3) fun v4 =>
 @AM.bind Ans Ans (Lp (fun l5 =>
 (fun (v6 v7 : AV) =>
 @AM.bind AV Ans (bn Tryz.prog .lss 3 false v7 v4) fun v8 =>
 @bcond Ans v8 (
 @AM.bind AV Ans (iaddrS 2 v3 v7) fun v9 =>
 @AM.bind AV Ans (ldN 2 v9) fun v10 =>
 @AM.bind AV Ans (nw [(.str []), (.str [])]) fun v11 =>
 @AM.bind AV Ans (unit2 (stN 2 v11 v10)) fun _ =>
 @AM.bind AV Ans (faddr 0 v11) fun v12 =>
 @AM.bind AV Ans (ld v12) fun v13 =>
 @AM.bind AV Ans (C 233 [v13, a1]) fun v14 =>
 @AM.bind Ans Ans (@bcond Ans v14 (
 @AM.bind AV Ans (faddr 1 v11) fun v15 =>
 @AM.bind AV Ans (ld v15) fun v16 =>
 @AM.bind AV Ans (bsl [(.str [])] [(0, 1, v16)] 1 1) fun v17 =>
 @AM.bind AV Ans (apnd 1 v6 v17) fun v18 =>
 @AM.ret Ans (0, [v18])) (
 @AM.ret Ans (0, [v6]))) fun r19 =>
 cond (Nat.beq r19.1 0) (
 (fun (v20 : AV) =>
 @AM.bind AV Ans (bn Tryz.prog .add 3 true v7 (.int .i64 (.ofNat 1))) fun v21 =>
 @AM.ret Ans (0, [v20, v21])) (g0 r19.2 0)) (.bad)) (
 @AM.ret Ans (2, [v6, v7]))) (g0 l5 0) (g0 l5 1)) [.snil, (.int .i64 (.ofNat 0))]) fun r22 =>
 cond (Nat.beq r22.1 2) (
 (fun (v23 v24 : AV) =>
 @AM.ret Ans (0, [v23])) (g0 r22.2 0) (g0 r22.2 1)) (.bad)) (
 @AM.ret Ans (0, [.snil]))) fun r25 =>
 cond (Nat.beq r25.1 0) (
 (fun (v26 : AV) =>
 @AM.ret AV v26) (g0 r25.2 0)) (.bad)
/- internal/stringslite.HasPrefix -/
noncomputable def F226 (C : CallOp) (Lp : LoopOp) (a0 a1 : AV) : AM AV :=
 @AM.bind AV AV (lenStr a0) fun v0 =>
 @AM.bind AV AV (lenStr a1) fun v1 =>
 @AM.bind AV AV (bn Tryz.prog .geq 3 false v0 v1) fun v2 =>
 @AM.bind AV AV (guardA v2 true (.ret a0)) fun v3 =>
 @AM.bind AV AV (guardA v2 true (.ret a1)) fun v4 =>
 @AM.bind AV AV (guardA v2 true (lenStr v4)) fun v5 =>
 @AM.bind AV AV (guardA v2 true (sliceA Tryz.prog 9 v3 none (some v5) none)) fun v6 =>
 @AM.bind AV AV (guardA v2 true (.ret a1)) fun v7 =>
 @AM.bind AV AV (guardA v2 true (bn Tryz.prog .eql 9 false v6 v7)) fun v8 =>
 @AM.bind AV AV (pickA v2 v8 (.bool false)) fun v9 =>
 @AM.ret AV v9
/- usher/field.isOne -/
noncomputable def F232 (C : CallOp) (Lp : LoopOp) (a0 : AV) : AM AV :=
 @AM.bind AV AV (boxA a0) fun v0 =>
 @bindP AV AV false (faddr 0 v0) fun v1 =>
 @bindP AV AV false (ld v1) fun v2 =>
 @heavyA true (C 125 [v2]) AV fun v3 =>
 @bindP AV AV false (guardA v3 true (faddr 1 v0)) fun v4 =>
 @bindP AV AV false (guardA v3 true (ld v4)) fun v5 =>
 @heavyA true (guardA v3 true (C 120 [v5])) AV fun v6 =>
 @bindP AV AV false (pickA v3 v6 (.bool false)) fun v7 =>
 @bindP AV AV false (guardA v7 true (faddr 1 v0)) fun v8 =>
 @bindP AV AV false (guardA v7 true (ld v8)) fun v9 =>
 fun h11 => @bindP AV AV false (guardA v7 true (C 121 [v9])) (fun v10 h12 => cond (Nat.ble h11.next h12.next && true) ((
 @bindP AV AV false (guardA v7 true (faddr 1 v0)) fun v13 =>
 fun h15 => @bindP AV AV false (guardA v7 true (ld v13)) (fun v14 h16 => cond ((AV.under h11.next v13 && (AV.under h11.next v7 && true)) && (sameS (guardA v7 true (ld v13)) v14 h11 && true)) ((
 @bindP AV AV false (guardA v7 true (bn Tryz.prog .eql 9 false v10 v14)) fun v17 =>
 @bindP AV AV false (pickA v7 v17 (.bool false)) fun v18 =>
 @AM.ret AV v18) h16) .bad) h15) h12) .bad) h11
/- usher/ascii.Same -/
noncomputable def F233 (C : CallOp) (Lp : LoopOp) (a0 a1 : AV) : AM AV :=
 @AM.bind AV AV (C 255 [a0]) fun v0 =>
 @AM.bind AV AV (C 255 [a1]) fun v1 =>
 @AM.bind AV AV (bn Tryz.prog .eql 9 false v0 v1) fun v2 =>
 @AM.ret AV v2
/- internal/strconv.FormatInt -/
noncomputable def F237 (C : CallOp) (Lp : LoopOp) (a0 a1 : AV) : AM AV :=
 @AM.bind AV AV (bn Tryz.prog .eql 3 true a1 (.int .i64 (.ofNat 10))) fun v0 =>
 @bcond AV v0 (
 @AM.bind AV AV (bn Tryz.prog .leq 2 true (.int .i64 (.ofNat 0)) a0) fun v1 =>
 @AM.bind AV AV (guardA v1 true (.ret a0)) fun v2 =>
 @AM.bind AV AV (guardA v1 true (bn Tryz.prog .lss 2 true v2 (.int .i64 (.ofNat 100)))) fun v3 =>
 @AM.bind AV AV (pickA v1 v3 (.bool false)) fun v4 =>
 @bcond AV v4 (
 @AM.bind AV AV (C 258 [a0]) fun v5 =>
 @AM.ret AV v5) (
 @AM.bind AV AV (nw [(.int .u8 (.ofNat 0)), (.int .u8 (.ofNat 0)), (.int .u8 (.ofNat 0)), (.int .u8 (.ofNat 0)), (.int .u8 (.ofNat 0)), (.int .u8 (.ofNat 0)), (.int .u8 (.ofNat 0)), (.int .u8 (.ofNat 0)), (.int .u8 (.ofNat 0)), (.int .u8 (.ofNat 0)), (.int .u8 (.ofNat 0)), (.int .u8 (.ofNat 0)), (.int .u8 (.ofNat 0)), (.int .u8 (.ofNat 0)), (.int .u8 (.ofNat 0)), (.int .u8 (.ofNat 0)), (.int .u8 (.ofNat 0)), (.int .u8 (.ofNat 0)), (.int .u8 (.ofNat 0)), (.int .u8 (.ofNat 0)), (.int .u8 (.ofNat 0)), (.int .u8 (.ofNat 0)), (.int .u8 (.ofNat 0)), (.int .u8 (.ofNat 0))]) fun v6 =>
 @AM.bind AV AV (convA Tryz.prog 2 289 a0) fun v7 =>
 @AM.bind AV AV (bn Tryz.prog .lss 2 true a0 (.int .i64 (.ofNat 0))) fun v8 =>
 @AM.bind Ans AV (@bcond Ans v8 (
 @AM.bind AV Ans (un .neg v7) fun v9 =>
 @AM.ret Ans (0, [v9])) (
 @AM.ret Ans (0, [v7]))) fun r10 =>
 cond (Nat.beq r10.1 0) (
 (fun (v11 : AV) =>
 @AM.bind AV AV (C 259 [v11]) fun v12 =>
 @AM.bind AV AV (bn Tryz.prog .add 3 true (.int .i64 (.ofNat 1)) v12) fun v13 =>
 @AM.bind AV AV (sliceA Tryz.prog 288 v6 (some (.int .i64 (.ofNat 1))) (some v13) none) fun v14 =>
 @AM.bind AV AV (C 260 [v14, v11]) fun v15 =>
 @AM.bind AV AV (bn Tryz.prog .lss 2 true a0 (.int .i64 (.ofNat 0))) fun v16 =>
 @bcond AV v16 (
 @AM.bind AV AV (iaddrA 24 1 v6 (.int .i64 (.ofNat 0))) fun v17 =>
 @AM.bind AV AV (unit2 (st v17 (.int .u8 (.ofNat 45)))) fun _ =>
 @AM.bind AV AV (bn Tryz.prog .add 3 true (.int .i64 (.ofNat 1)) v12) fun v18 =>
 @AM.bind AV AV (sliceA Tryz.prog 288 v6 none (some v18) none) fun v19 =>
 @AM.bind AV AV (convA Tryz.prog 22 9 v19) fun v20 =>
 @AM.ret AV v20) (
 @AM.bind AV AV (bn Tryz.prog .add 3 true (.int .i64 (.ofNat 1)) v12) fun v21 =>
 @AM.bind AV AV (sliceA Tryz.prog 288 v6 (some (.int .i64 (.ofNat 1))) (some v21) none) fun v22 =>
 @AM.bind AV AV (convA Tryz.prog 22 9 v22) fun v23 =>
 @AM.ret AV v23)) (g0 r10.2 0)) (.bad))) (
 @AM.bind AV AV (convA Tryz.prog 2 289 a0) fun v24 =>
 @AM.bind AV AV (bn Tryz.prog .lss 2 true a0 (.int .i64 (.ofNat 0))) fun v25 =>
 @AM.bind AV AV (C 261 [.snil, v24, a1, v25, (.bool false)]) fun v26 =>
 @AM.bind AV AV (extA v26 0) fun v27 =>
 @AM.bind AV AV (extA v26 1) fun v28 =>
 @AM.ret AV v28)
/- strings.Count -/
noncomputable def F239 (C : CallOp) (Lp : LoopOp) (a0 a1 : AV) : AM AV :=
 @AM.bind AV AV (lenStr a1) fun v0 =>
 @AM.bind AV AV (bn Tryz.prog .eql 3 true v0 (.int .i64 (.ofNat 0))) fun v1 =>
 @bcond AV v1 (
 @AM.bind AV AV (C 262 [a0]) fun v2 =>
 @AM.bind AV AV (bn Tryz.prog .add 3 true v2 (.int .i64 (.ofNat 1))) fun v3 =>
 @AM.ret AV v3) (
 @AM.bind AV AV (lenStr a1) fun v4 =>
 @AM.bind AV AV (bn Tryz.prog .eql 3 true v4 (.int .i64 (.ofNat 1))) fun v5 =>
 @bcond AV v5 (
 @AM.bind AV AV (sIdx a1 (.int .i64 (.ofNat 0))) fun v6 =>
 @AM.bind AV AV (C 263 [a0, v6]) fun v7 =>
 @AM.ret AV v7) (
 @AM.bind Ans AV (Lp (fun l8 =>
 (fun (v9 v10 v11 : AV) =>
 @AM.bind AV Ans (C 240 [v11, a1]) fun v12 =>
 @AM.bind AV Ans (bn Tryz.prog .eql 3 true v12 (.int .i64 (.negSucc 0))) fun v13 =>
 @bcond Ans v13 (
 @AM.ret Ans (1, [v10, v10, v11])) (
 @AM.bind AV Ans (bn Tryz.prog .add 3 true v10 (.int .i64 (.ofNat 1))) fun v14 =>
 @AM.bind AV Ans (lenStr a1) fun v15 =>
 @AM.bind AV Ans (bn Tryz.prog .add 3 false v12 v15) fun v16 =>
 @AM.bind AV Ans (sliceA Tryz.prog 9 v11 (some v16) none none) fun v17 =>
 @AM.ret Ans (0, [v9, v14, v17]))) (g0 l8 0) (g0 l8 1) (g0 l8 2)) [(.int .i64 (.ofNat 0)), (.int .i64 (.ofNat 0)), a0]) fun r18 =>
 cond (Nat.beq r18.1 1) (
 (fun (v19 v20 v21 : AV) =>
 @AM.ret AV v19) (g0 r18.2 0) (g0 r18.2 1) (g0 r18.2 2)) (.bad)))
/- strings.Index -/
noncomputable def F240 (C : CallOp) (Lp : LoopOp) (a0 a1 : AV) : AM AV :=
 @AM.bind AV AV (C 264 [a0, a1]) fun v0 =>
 @AM.ret AV v0
/- (*strings.asciiSet).contains -/
noncomputable def F241 (C : CallOp) (Lp : LoopOp) (a0 a1 : AV) : AM AV :=
 @AM.bind AV AV (nilC a0) fun v0 =>
 @AM.bind AV AV (iaddrA 256 1 v0 a1) fun v1 =>
 @AM.bind AV AV (ld v1) fun v2 =>
 @AM.ret AV v2
/- (*usher/head.Head).Line -/
noncomputable def F247 (C : CallOp) (Lp : LoopOp) (a0 a1 : AV) : AM AV :=
 @AM.bind AV AV (bn Tryz.prog .eql 178 true a0 (.ptr none)) fun v0 =>
 @bcond AV v0 (
 @AM.ret AV (.tuple ((.bool false) :: ((.int .i64 (.ofNat 0)) :: [])))) (
 @AM.bind AV AV (nilC a0) fun v1 =>
 @AM.bind AV AV (faddr 14 v1) fun v2 =>
 @AM.bind AV AV (ld v2) fun v3 =>
 @AM.bind AV AV (guardA v3 false (.ret a0)) fun v4 =>
 @AM.bind AV AV (guardA v3 false (nilC v4)) fun v5 =>
 @AM.bind AV AV (guardA v3 false (faddr 15 v5)) fun v6 =>
 @AM.bind AV AV (guardA v3 false (ld v6)) fun v7 =>
 @AM.bind AV AV (guardA v3 false (bn Tryz.prog .neq 3 true v7 (.int .i64 (.ofNat 0)))) fun v8 =>
 @AM.bind AV AV (pickA v3 (.bool true) v8) fun v9 =>
 @bcond AV v9 (
 @bindP AV AV false (nilC a0) fun v10 =>
 @bindP AV AV false (faddr 14 v10) fun v11 =>
 @bindP AV AV false (ld v11) fun v12 =>
 @bindP AV AV false (nilC a0) fun v13 =>
 @bindP AV AV false (faddr 15 v13) fun v14 =>
 @bindP AV AV false (ld v14) fun v15 =>
 @AM.ret AV (.tuple (v12 :: (v15 :: [])))) (
 @AM.bind AV AV (nilC a0) fun v16 =>
 @AM.bind AV AV (faddr 9 v16) fun v17 =>
 @AM.bind AV AV (ld v17) fun v18 =>
 @AM.bind AV AV (lenStr a1) fun v19 =>
 @AM.bind AV AV (ofOpt (minA v19 [(.int .i64 (.ofNat 257))])) fun v20 =>
 @AM.bind AV AV (bn Tryz.prog .add 3 true v20 (.int .i64 (.ofNat 2))) fun v21 =>
 @AM.bind AV AV (bn Tryz.prog .add 3 false v18 v21) fun v22 =>
 @AM.bind AV AV (nilC a0) fun v23 =>
 @AM.bind AV AV (faddr 9 v23) fun v24 =>
 @AM.bind AV AV (unit2 (st v24 v22)) fun _ =>
 @AM.bind AV AV (lenStr a1) fun v25 =>
 @AM.bind AV AV (bn Tryz.prog .gtr 3 true v25 (.int .i64 (.ofNat 256))) fun v26 =>
 @AM.bind AV AV (guardA v26 false (.ret a0)) fun v27 =>
 @AM.bind AV AV (guardA v26 false (nilC v27)) fun v28 =>
 @AM.bind AV AV (guardA v26 false (faddr 9 v28)) fun v29 =>
 @AM.bind AV AV (guardA v26 false (ld v29)) fun v30 =>
 @AM.bind AV AV (guardA v26 false (bn Tryz.prog .gtr 3 true v30 (.int .i64 (.ofNat 1024)))) fun v31 =>
 @AM.bind AV AV (pickA v26 (.bool true) v31) fun v32 =>
 @AM.bind Ans AV (@bcond Ans v32 (
 @AM.bind AV Ans (nilC a0) fun v33 =>
 @AM.bind AV Ans (faddr 15 v33) fun v34 =>
 @AM.bind AV Ans (unit2 (st v34 (.int .i64 (.ofNat 414)))) fun _ =>
 @AM.bind AV Ans (nilC a0) fun v35 =>
 @AM.bind AV Ans (faddr 7 v35) fun v36 =>
 @AM.bind AV Ans (ld v36) fun v37 =>
 @bcond Ans v37 (
 @AM.bind AV Ans (nilC a0) fun v38 =>
 @AM.bind AV Ans (faddr 15 v38) fun v39 =>
 @AM.bind AV Ans (unit2 (st v39 (.int .i64 (.ofNat 431)))) fun _ =>
 @AM.ret Ans (0, [])) (
 @AM.ret Ans (0, []))) (
 @AM.bind AV Ans (nilC a0) fun v40 =>
 @AM.bind AV Ans (faddr 7 v40) fun v41 =>
 @AM.bind AV Ans (ld v41) fun v42 =>
 @AM.bind AV Ans (un .not v42) fun v43 =>
 @AM.bind AV Ans (guardA v43 true (.ret a1)) fun v44 =>
 @AM.bind AV Ans (guardA v43 true (bn Tryz.prog .eql 9 true v44 (.str []))) fun v45 =>
 @AM.bind AV Ans (pickA v43 v45 (.bool false)) fun v46 =>
 @bcond Ans v46 (
 @AM.bind AV Ans (nilC a0) fun v47 =>
 @AM.bind AV Ans (faddr 8 v47) fun v48 =>
 @AM.bind AV Ans (ld v48) fun v49 =>
 @AM.bind AV Ans (bn Tryz.prog .add 3 true v49 (.int .i64 (.ofNat 1))) fun v50 =>
 @AM.bind AV Ans (nilC a0) fun v51 =>
 @AM.bind AV Ans (faddr 8 v51) fun v52 =>
 @AM.bind AV Ans (unit2 (st v52 v50)) fun _ =>
 @AM.bind AV Ans (nilC a0) fun v53 =>
 @AM.bind AV Ans (faddr 8 v53) fun v54 =>
 @AM.bind AV Ans (ld v54) fun v55 =>
 @AM.bind AV Ans (bn Tryz.prog .gtr 3 true v55 (.int .i64 (.ofNat 4))) fun v56 =>
 @bcond Ans v56 (
 @AM.bind AV Ans (nilC a0) fun v57 =>
 @AM.bind AV Ans (faddr 15 v57) fun v58 =>
 @AM.bind AV Ans (unit2 (st v58 (.int .i64 (.ofNat 400)))) fun _ =>
 @AM.ret Ans (0, [])) (
 @AM.ret Ans (0, []))) (
 @AM.bind AV Ans (nilC a0) fun v59 =>
 @AM.bind AV Ans (faddr 7 v59) fun v60 =>
 @AM.bind AV Ans (ld v60) fun v61 =>
 @AM.bind AV Ans (un .not v61) fun v62 =>
 @bcond Ans v62 (
 @AM.bind AV Ans (C 268 [a0, a1]) fun v63 =>
 @AM.bind AV Ans (nilC a0) fun v64 =>
 @AM.bind AV Ans (faddr 15 v64) fun v65 =>
 @AM.bind AV Ans (unit2 (st v65 v63)) fun _ =>
 @AM.ret Ans (0, [])) (
 @AM.bind AV Ans (bn Tryz.prog .eql 9 true a1 (.str [])) fun v66 =>
 @bcond Ans v66 (
 @bindP AV Ans false (nilC a0) fun v67 =>
 @bindP AV Ans false (faddr 6 v67) fun v68 =>
 @bindP AV Ans false (ld v68) fun v69 =>
 @bindP AV Ans false (nilC a0) fun v70 =>
 @bindP AV Ans false (faddr 0 v70) fun v71 =>
 @bindP AV Ans false (ld v71) fun v72 =>
 @heavyA true (C 269 [v69, v72]) Ans fun v73 =>
 @bindP AV Ans false (extA v73 0) fun v74 =>
 @bindP AV Ans false (extA v73 1) fun v75 =>
 @bindP AV Ans false (nilC a0) fun v76 =>
 @bindP AV Ans false (faddr 10 v76) fun v77 =>
 @heavyA true (unit2 (stN 4 v77 v74)) Ans fun _ =>
 @bindP AV Ans false (nilC a0) fun v78 =>
 @bindP AV Ans false (faddr 15 v78) fun v79 =>
 @heavyA true (unit2 (st v79 v75)) Ans fun _ =>
 @AM.bind AV Ans (nilC a0) fun v80 =>
 @AM.bind AV Ans (faddr 15 v80) fun v81 =>
 @AM.bind AV Ans (ld v81) fun v82 =>
 @AM.bind AV Ans (bn Tryz.prog .eql 3 true v82 (.int .i64 (.ofNat 0))) fun v83 =>
 @AM.bind AV Ans (nilC a0) fun v84 =>
 @AM.bind AV Ans (faddr 14 v84) fun v85 =>
 @AM.bind AV Ans (unit2 (st v85 v83)) fun _ =>
 @AM.ret Ans (0, [])) (
 @AM.bind AV Ans (C 270 [a0, a1]) fun v86 =>
 @AM.bind AV Ans (nilC a0) fun v87 =>
 @AM.bind AV Ans (faddr 15 v87) fun v88 =>
 @AM.bind AV Ans (unit2 (st v88 v86)) fun _ =>
 @AM.ret Ans (0, [])))))) fun r89 =>
 cond (Nat.beq r89.1 0) (
 @bindP AV AV false (nilC a0) fun v90 =>
 @bindP AV AV false (faddr 14 v90) fun v91 =>
 @bindP AV AV false (ld v91) fun v92 =>
 @bindP AV AV false (nilC a0) fun v93 =>
 @bindP AV AV false (faddr 15 v93) fun v94 =>
 @bindP AV AV false (ld v94) fun v95 =>
 @AM.ret AV (.tuple (v92 :: (v95 :: [])))) (.bad)))
/- (*usher/parse.Parser).frames -/
noncomputable def F248 (C : CallOp) (Lp : LoopOp) (a0 : AV) : AM AV :=
 @AM.bind AV AV (nilC a0) fun v0 =>
 @AM.bind AV AV (faddr 3 v0) fun v1 =>
 @AM.bind AV AV (ld v1) fun v2 =>
 @AM.bind AV AV (C 181 [v2]) fun v3 =>
 @AM.bind AV AV (nw [(.int .i64 (.ofNat 0)), (.int .i64 (.ofNat 0)), (.bool false), (.bool false)]) fun v4 =>
 @AM.bind AV AV (unit2 (stN 4 v4 v3)) fun _ =>
 @AM.bind AV AV (nilC a0) fun v5 =>
 @AM.bind AV AV (faddr 0 v5) fun v6 =>
 @AM.bind AV AV (unit2 (st v6 (.int .i64 (.ofNat 2)))) fun _ =>
 @AM.bind AV AV (faddr 0 v4) fun v7 =>
 @AM.bind AV AV (ld v7) fun v8 =>
 @AM.bind AV AV (bn Tryz.prog .eql 3 true v8 (.int .i64 (.ofNat 2))) fun v9 =>
 @bcond AV v9 (
 @AM.bind AV AV (C 271 []) fun v10 =>
 @AM.bind AV AV (nilC a0) fun v11 =>
 @AM.bind AV AV (faddr 6 v11) fun v12 =>
 @AM.bind AV AV (unit2 (st v12 v10)) fun _ =>
 @AM.ret AV (.tuple [])) (
 @AM.bind AV AV (faddr 1 v4) fun v13 =>
 @AM.bind AV AV (ld v13) fun v14 =>
 @AM.bind AV AV (bn Tryz.prog .gtr 3 true v14 (.int .i64 (.ofNat 0))) fun v15 =>
 @bcond AV v15 (
 @AM.bind AV AV (faddr 1 v4) fun v16 =>
 @AM.bind AV AV (ld v16) fun v17 =>
 @AM.bind AV AV (nilC a0) fun v18 =>
 @AM.bind AV AV (faddr 4 v18) fun v19 =>
 @AM.bind AV AV (unit2 (st v19 v17)) fun _ =>
 @AM.ret AV (.tuple [])) (
 @AM.bind AV AV (nilC a0) fun v20 =>
 @AM.bind AV AV (faddr 0 v20) fun v21 =>
 @AM.bind AV AV (unit2 (st v21 (.int .i64 (.ofNat 3)))) fun _ =>
 @AM.ret AV (.tuple [])))
/- usher/ascii.Lower -/
noncomputable def F255 (C : CallOp) (Lp : LoopOp) (a0 : AV) : AM AV :=
 @AM.bind AV AV (convA Tryz.prog 9 22 a0) fun v0 =>
 @AM.bind AV AV (lenSl v0) fun v1 =>
 @AM.bind Ans AV (Lp (fun l2 =>
 (fun (v3 : AV) =>
 @AM.bind AV Ans (bn Tryz.prog .lss 3 false v3 v1) fun v4 =>
 @bcond Ans v4 (
 @AM.bind AV Ans (iaddrS 1 v0 v3) fun v5 =>
 @AM.bind AV Ans (ld v5) fun v6 =>
 @AM.bind AV Ans (C 212 [v6]) fun v7 =>
 @AM.bind Ans Ans (@bcond Ans v7 (
 @AM.bind AV Ans (bn Tryz.prog .add 5 true v6 (.int .u8 (.ofNat 97))) fun v8 =>
 @AM.bind AV Ans (bn Tryz.prog .sub 5 true v8 (.int .u8 (.ofNat 65))) fun v9 =>
 @AM.bind AV Ans (iaddrS 1 v0 v3) fun v10 =>
 @AM.bind AV Ans (unit2 (st v10 v9)) fun _ =>
 @AM.ret Ans (0, [])) (
 @AM.ret Ans (0, []))) fun r11 =>
 cond (Nat.beq r11.1 0) (
 @AM.bind AV Ans (bn Tryz.prog .add 3 true v3 (.int .i64 (.ofNat 1))) fun v12 =>
 @AM.ret Ans (0, [v12])) (.bad)) (
 @AM.ret Ans (2, [v3]))) (g0 l2 0)) [(.int .i64 (.ofNat 0))]) fun r13 =>
 cond (Nat.beq r13.1 2) (
 (fun (v14 : AV) =>
 @AM.bind AV AV (convA Tryz.prog 22 9 v0) fun v15 =>
 @AM.ret AV v15) (g0 r13.2 0)) (.bad)
/- internal/strconv.small -/
noncomputable def F258 (C : CallOp) (Lp : LoopOp) (a0 : AV) : AM AV :=
 @AM.bind AV AV (bn Tryz.prog .lss 3 true a0 (.int .i64 (.ofNat 10))) fun v0 =>
 @bcond AV v0 (
 @AM.bind AV AV (bn Tryz.prog .add 3 true a0 (.int .i64 (.ofNat 1))) fun v1 =>
 @AM.bind AV AV (sliceA Tryz.prog 9 (.str [48,49,50,51,52,53,54,55,56,57,97,98,99,100,101,102,103,104,105,106,107,108,109,110,111,112,113,114,115,116,117,118,119,120,121,122]) (some a0) (some v1) none) fun v2 =>
 @AM.ret AV v2) (
 @AM.bind AV AV (bn Tryz.prog .mul 3 true a0 (.int .i64 (.ofNat 2))) fun v3 =>
 @AM.bind AV AV (bn Tryz.prog .mul 3 true a0 (.int .i64 (.ofNat 2))) fun v4 =>
 @AM.bind AV AV (bn Tryz.prog .add 3 true v4 (.int .i64 (.ofNat 2))) fun v5 =>
 @AM.bind AV AV (sliceA Tryz.prog 9 (.str [48,48,48,49,48,50,48,51,48,52,48,53,48,54,48,55,48,56,48,57,49,48,49,49,49,50,49,51,49,52,49,53,49,54,49,55,49,56,49,57,50,48,50,49,50,50,50,51,50,52,50,53,50,54,50,55,50,56,50,57,51,48,51,49,51,50,51,51,51,52,51,53,51,54,51,55,51,56,51,57,52,48,52,49,52,50,52,51,52,52,52,53,52,54,52,55,52,56,52,57,53,48,53,49,53,50,53,51,53,52,53,53,53,54,53,55,53,56,53,57,54,48,54,49,54,50,54,51,54,52,54,53,54,54,54,55,54,56,54,57,55,48,55,49,55,50,55,51,55,52,55,53,55,54,55,55,55,56,55,57,56,48,56,49,56,50,56,51,56,52,56,53,56,54,56,55,56,56,56,57,57,48,57,49,57,50,57,51,57,52,57,53,57,54,57,55,57,56,57,57]) (some v3) (some v5) none) fun v6 =>
 @AM.ret AV v6)
/- internal/strconv.numDigits -/
noncomputable def F259 (C : CallOp) (Lp : LoopOp) (a0 : AV) : AM AV :=
 @AM.bind AV AV (C 283 [a0]) fun v0 =>
 @AM.bind AV AV (C 289 [v0]) fun v1 =>
 @AM.bind AV AV (iaddrA 20 1 (.ptr (some ⟨1, 0⟩)) v1) fun v2 =>
 @AM.bind AV AV (ld v2) fun v3 =>
 @AM.bind AV AV (bn Tryz.prog .geq 289 false a0 v3) fun v4 =>
 @AM.bind AV AV (C 290 [v4]) fun v5 =>
 @AM.bind AV AV (bn Tryz.prog .add 3 false v1 v5) fun v6 =>
 @AM.ret AV v6
/- internal/strconv.formatBase10 -/
noncomputable def F260 (C : CallOp) (Lp : LoopOp) (a0 a1 : AV) : AM AV :=
 @AM.bind AV AV (lenSl a0) fun v0 =>
 @AM.bind Ans AV (Lp (fun l1 =>
 (fun (v2 v3 : AV) =>
 @AM.bind AV Ans (bn Tryz.prog .geq 3 true v3 (.int .i64 (.ofNat 8))) fun v4 =>
 @bcond Ans v4 (
 @AM.bind AV Ans (bn Tryz.prog .rem 289 true v2 (.int .u64 (.ofNat 100000000))) fun v5 =>
 @AM.bind AV Ans (convA Tryz.prog 289 307 v5) fun v6 =>
 @AM.bind AV Ans (bn Tryz.prog .quo 289 true v2 (.int .u64 (.ofNat 100000000))) fun v7 =>
 @AM.bind AV Ans (bn Tryz.prog .quo 307 true v6 (.int .u32 (.ofNat 10000))) fun v8 =>
 @AM.bind AV Ans (bn Tryz.prog .rem 307 true v6 (.int .u32 (.ofNat 10000))) fun v9 =>
 @AM.bind AV Ans (bn Tryz.prog .quo 307 true v9 (.int .u32 (.ofNat 100))) fun v10 =>
 @AM.bind AV Ans (bn Tryz.prog .mul 307 true v10 (.int .u32 (.ofNat 2))) fun v11 =>
 @AM.bind AV Ans (bn Tryz.prog .rem 307 true v9 (.int .u32 (.ofNat 100))) fun v12 =>
 @AM.bind AV Ans (bn Tryz.prog .mul 307 true v12 (.int .u32 (.ofNat 2))) fun v13 =>
 @AM.bind AV Ans (bn Tryz.prog .quo 307 true v8 (.int .u32 (.ofNat 100))) fun v14 =>
 @AM.bind AV Ans (bn Tryz.prog .mul 307 true v14 (.int .u32 (.ofNat 2))) fun v15 =>
 @AM.bind AV Ans (bn Tryz.prog .rem 307 true v8 (.int .u32 (.ofNat 100))) fun v16 =>
 @AM.bind AV Ans (bn Tryz.prog .mul 307 true v16 (.int .u32 (.ofNat 2))) fun v17 =>
 @bindP AV Ans false (bn Tryz.prog .sub 3 true v3 (.int .i64 (.ofNat 1))) fun v18 =>
 @bindP AV Ans false (bn Tryz.prog .sub 3 true v3 (.int .i64 (.ofNat 2))) fun v19 =>
 @bindP AV Ans false (bn Tryz.prog .add 307 true v13 (.int .u32 (.ofNat 1))) fun v20 =>
 @bindP AV Ans false (sIdx (.str [48,48,48,49,48,50,48,51,48,52,48,53,48,54,48,55,48,56,48,57,49,48,49,49,49,50,49,51,49,52,49,53,49,54,49,55,49,56,49,57,50,48,50,49,50,50,50,51,50,52,50,53,50,54,50,55,50,56,50,57,51,48,51,49,51,50,51,51,51,52,51,53,51,54,51,55,51,56,51,57,52,48,52,49,52,50,52,51,52,52,52,53,52,54,52,55,52,56,52,57,53,48,53,49,53,50,53,51,53,52,53,53,53,54,53,55,53,56,53,57,54,48,54,49,54,50,54,51,54,52,54,53,54,54,54,55,54,56,54,57,55,48,55,49,55,50,55,51,55,52,55,53,55,54,55,55,55,56,55,57,56,48,56,49,56,50,56,51,56,52,56,53,56,54,56,55,56,56,56,57,57,48,57,49,57,50,57,51,57,52,57,53,57,54,57,55,57,56,57,57]) v20) fun v21 =>
 @bindP AV Ans false (sIdx (.str [48,48,48,49,48,50,48,51,48,52,48,53,48,54,48,55,48,56,48,57,49,48,49,49,49,50,49,51,49,52,49,53,49,54,49,55,49,56,49,57,50,48,50,49,50,50,50,51,50,52,50,53,50,54,50,55,50,56,50,57,51,48,51,49,51,50,51,51,51,52,51,53,51,54,51,55,51,56,51,57,52,48,52,49,52,50,52,51,52,52,52,53,52,54,52,55,52,56,52,57,53,48,53,49,53,50,53,51,53,52,53,53,53,54,53,55,53,56,53,57,54,48,54,49,54,50,54,51,54,52,54,53,54,54,54,55,54,56,54,57,55,48,55,49,55,50,55,51,55,52,55,53,55,54,55,55,55,56,55,57,56,48,56,49,56,50,56,51,56,52,56,53,56,54,56,55,56,56,56,57,57,48,57,49,57,50,57,51,57,52,57,53,57,54,57,55,57,56,57,57]) v13) fun v22 =>
 @bindP AV Ans false (iaddrS 1 a0 v18) fun v23 =>
 @heavyA true (unit2 (st v23 v21)) Ans fun _ =>
 @bindP AV Ans false (iaddrS 1 a0 v19) fun v24 =>
 @heavyA true (unit2 (st v24 v22)) Ans fun _ =>
 @bindP AV Ans false (bn Tryz.prog .sub 3 true v3 (.int .i64 (.ofNat 3))) fun v25 =>
 @bindP AV Ans false (bn Tryz.prog .sub 3 true v3 (.int .i64 (.ofNat 4))) fun v26 =>
 @bindP AV Ans false (bn Tryz.prog .add 307 true v11 (.int .u32 (.ofNat 1))) fun v27 =>
 @bindP AV Ans false (sIdx (.str [48,48,48,49,48,50,48,51,48,52,48,53,48,54,48,55,48,56,48,57,49,48,49,49,49,50,49,51,49,52,49,53,49,54,49,55,49,56,49,57,50,48,50,49,50,50,50,51,50,52,50,53,50,54,50,55,50,56,50,57,51,48,51,49,51,50,51,51,51,52,51,53,51,54,51,55,51,56,51,57,52,48,52,49,52,50,52,51,52,52,52,53,52,54,52,55,52,56,52,57,53,48,53,49,53,50,53,51,53,52,53,53,53,54,53,55,53,56,53,57,54,48,54,49,54,50,54,51,54,52,54,53,54,54,54,55,54,56,54,57,55,48,55,49,55,50,55,51,55,52,55,53,55,54,55,55,55,56,55,57,56,48,56,49,56,50,56,51,56,52,56,53,56,54,56,55,56,56,56,57,57,48,57,49,57,50,57,51,57,52,57,53,57,54,57,55,57,56,57,57]) v27) fun v28 =>
 @bindP AV Ans false (sIdx (.str [48,48,48,49,48,50,48,51,48,52,48,53,48,54,48,55,48,56,48,57,49,48,49,49,49,50,49,51,49,52,49,53,49,54,49,55,49,56,49,57,50,48,50,49,50,50,50,51,50,52,50,53,50,54,50,55,50,56,50,57,51,48,51,49,51,50,51,51,51,52,51,53,51,54,51,55,51,56,51,57,52,48,52,49,52,50,52,51,52,52,52,53,52,54,52,55,52,56,52,57,53,48,53,49,53,50,53,51,53,52,53,53,53,54,53,55,53,56,53,57,54,48,54,49,54,50,54,51,54,52,54,53,54,54,54,55,54,56,54,57,55,48,55,49,55,50,55,51,55,52,55,53,55,54,55,55,55,56,55,57,56,48,56,49,56,50,56,51,56,52,56,53,56,54,56,55,56,56,56,57,57,48,57,49,57,50,57,51,57,52,57,53,57,54,57,55,57,56,57,57]) v11) fun v29 =>
 @bindP AV Ans false (iaddrS 1 a0 v25) fun v30 =>
 @heavyA true (unit2 (st v30 v28)) Ans fun _ =>
 @bindP AV Ans false (iaddrS 1 a0 v26) fun v31 =>
 @heavyA true (unit2 (st v31 v29)) Ans fun _ =>
 @bindP AV Ans false (bn Tryz.prog .sub 3 true v3 (.int .i64 (.ofNat 5))) fun v32 =>
 @bindP AV Ans false (bn Tryz.prog .sub 3 true v3 (.int .i64 (.ofNat 6))) fun v33 =>
 @bindP AV Ans false (bn Tryz.prog .add 307 true v17 (.int .u32 (.ofNat 1))) fun v34 =>
 @bindP AV Ans false (sIdx (.str [48,48,48,49,48,50,48,51,48,52,48,53,48,54,48,55,48,56,48,57,49,48,49,49,49,50,49,51,49,52,49,53,49,54,49,55,49,56,49,57,50,48,50,49,50,50,50,51,50,52,50,53,50,54,50,55,50,56,50,57,51,48,51,49,51,50,51,51,51,52,51,53,51,54,51,55,51,56,51,57,52,48,52,49,52,50,52,51,52,52,52,53,52,54,52,55,52,56,52,57,53,48,53,49,53,50,53,51,53,52,53,53,53,54,53,55,53,56,53,57,54,48,54,49,54,50,54,51,54,52,54,53,54,54,54,55,54,56,54,57,55,48,55,49,55,50,55,51,55,52,55,53,55,54,55,55,55,56,55,57,56,48,56,49,56,50,56,51,56,52,56,53,56,54,56,55,56,56,56,57,57,48,57,49,57,50,57,51,57,52,57,53,57,54,57,55,57,56,57,57]) v34) fun v35 =>
 @bindP AV Ans false (sIdx (.str [48,48,48,49,48,50,48,51,48,52,48,53,48,54,48,55,48,56,48,57,49,48,49,49,49,50,49,51,49,52,49,53,49,54,49,55,49,56,49,57,50,48,50,49,50,50,50,51,50,52,50,53,50,54,50,55,50,56,50,57,51,48,51,49,51,50,51,51,51,52,51,53,51,54,51,55,51,56,51,57,52,48,52,49,52,50,52,51,52,52,52,53,52,54,52,55,52,56,52,57,53,48,53,49,53,50,53,51,53,52,53,53,53,54,53,55,53,56,53,57,54,48,54,49,54,50,54,51,54,52,54,53,54,54,54,55,54,56,54,57,55,48,55,49,55,50,55,51,55,52,55,53,55,54,55,55,55,56,55,57,56,48,56,49,56,50,56,51,56,52,56,53,56,54,56,55,56,56,56,57,57,48,57,49,57,50,57,51,57,52,57,53,57,54,57,55,57,56,57,57]) v17) fun v36 =>
 @bindP AV Ans false (iaddrS 1 a0 v32) fun v37 =>
 @heavyA true (unit2 (st v37 v35)) Ans fun _ =>
 @bindP AV Ans false (iaddrS 1 a0 v33) fun v38 =>
 @heavyA true (unit2 (st v38 v36)) Ans fun _ =>
 @bindP AV Ans false (bn Tryz.prog .sub 3 true v3 (.int .i64 (.ofNat 7))) fun v39 =>
 @bindP AV Ans false (bn Tryz.prog .sub 3 true v3 (.int .i64 (.ofNat 8))) fun v40 =>
 @bindP AV Ans false (bn Tryz.prog .add 307 true v15 (.int .u32 (.ofNat 1))) fun v41 =>
 @bindP AV Ans false (sIdx (.str [48,48,48,49,48,50,48,51,48,52,48,53,48,54,48,55,48,56,48,57,49,48,49,49,49,50,49,51,49,52,49,53,49,54,49,55,49,56,49,57,50,48,50,49,50,50,50,51,50,52,50,53,50,54,50,55,50,56,50,57,51,48,51,49,51,50,51,51,51,52,51,53,51,54,51,55,51,56,51,57,52,48,52,49,52,50,52,51,52,52,52,53,52,54,52,55,52,56,52,57,53,48,53,49,53,50,53,51,53,52,53,53,53,54,53,55,53,56,53,57,54,48,54,49,54,50,54,51,54,52,54,53,54,54,54,55,54,56,54,57,55,48,55,49,55,50,55,51,55,52,55,53,55,54,55,55,55,56,55,57,56,48,56,49,56,50,56,51,56,52,56,53,56,54,56,55,56,56,56,57,57,48,57,49,57,50,57,51,57,52,57,53,57,54,57,55,57,56,57,57]) v41) fun v42 =>
 @bindP AV Ans false (sIdx (.str [48,48,48,49,48,50,48,51,48,52,48,53,48,54,48,55,48,56,48,57,49,48,49,49,49,50,49,51,49,52,49,53,49,54,49,55,49,56,49,57,50,48,50,49,50,50,50,51,50,52,50,53,50,54,50,55,50,56,50,57,51,48,51,49,51,50,51,51,51,52,51,53,51,54,51,55,51,56,51,57,52,48,52,49,52,50,52,51,52,52,52,53,52,54,52,55,52,56,52,57,53,48,53,49,53,50,53,51,53,52,53,53,53,54,53,55,53,56,53,57,54,48,54,49,54,50,54,51,54,52,54,53,54,54,54,55,54,56,54,57,55,48,55,49,55,50,55,51,55,52,55,53,55,54,55,55,55,56,55,57,56,48,56,49,56,50,56,51,56,52,56,53,56,54,56,55,56,56,56,57,57,48,57,49,57,50,57,51,57,52,57,53,57,54,57,55,57,56,57,57]) v15) fun v43 =>
 @bindP AV Ans false (iaddrS 1 a0 v39) fun v44 =>
 @heavyA true (unit2 (st v44 v42)) Ans fun _ =>
 @bindP AV Ans false (iaddrS 1 a0 v40) fun v45 =>
 @heavyA true (unit2 (st v45 v43)) Ans fun _ =>
 @AM.bind AV Ans (bn Tryz.prog .sub 3 true v3 (.int .i64 (.ofNat 8))) fun v46 =>
 @AM.ret Ans (0, [v7, v46])) (
 @AM.ret Ans (2, [v2, v3]))) (g0 l1 0) (g0 l1 1)) [a1, v0]) fun r47 =>
 cond (Nat.beq r47.1 2) (
 (fun (v48 v49 : AV) =>
 @AM.bind AV AV (convA Tryz.prog 289 307 v48) fun v50 =>
 @AM.bind AV AV (bn Tryz.prog .geq 3 true v49 (.int .i64 (.ofNat 4))) fun v51 =>
 @AM.bind Ans AV (@bcond Ans v51 (
 @AM.bind AV Ans (bn Tryz.prog .rem 307 true v50 (.int .u32 (.ofNat 10000))) fun v52 =>
 @AM.bind AV Ans (bn Tryz.prog .quo 307 true v50 (.int .u32 (.ofNat 10000))) fun v53 =>
 @AM.bind AV Ans (bn Tryz.prog .quo 307 true v52 (.int .u32 (.ofNat 100))) fun v54 =>
 @AM.bind AV Ans (bn Tryz.prog .mul 307 true v54 (.int .u32 (.ofNat 2))) fun v55 =>
 @AM.bind AV Ans (bn Tryz.prog .rem 307 true v52 (.int .u32 (.ofNat 100))) fun v56 =>
 @AM.bind AV Ans (bn Tryz.prog .mul 307 true v56 (.int .u32 (.ofNat 2))) fun v57 =>
 @bindP AV Ans false (bn Tryz.prog .sub 3 true v49 (.int .i64 (.ofNat 1))) fun v58 =>
 @bindP AV Ans false (bn Tryz.prog .sub 3 true v49 (.int .i64 (.ofNat 2))) fun v59 =>
 @bindP AV Ans false (bn Tryz.prog .add 307 true v57 (.int .u32 (.ofNat 1))) fun v60 =>
 @bindP AV Ans false (sIdx (.str [48,48,48,49,48,50,48,51,48,52,48,53,48,54,48,55,48,56,48,57,49,48,49,49,49,50,49,51,49,52,49,53,49,54,49,55,49,56,49,57,50,48,50,49,50,50,50,51,50,52,50,53,50,54,50,55,50,56,50,57,51,48,51,49,51,50,51,51,51,52,51,53,51,54,51,55,51,56,51,57,52,48,52,49,52,50,52,51,52,52,52,53,52,54,52,55,52,56,52,57,53,48,53,49,53,50,53,51,53,52,53,53,53,54,53,55,53,56,53,57,54,48,54,49,54,50,54,51,54,52,54,53,54,54,54,55,54,56,54,57,55,48,55,49,55,50,55,51,55,52,55,53,55,54,55,55,55,56,55,57,56,48,56,49,56,50,56,51,56,52,56,53,56,54,56,55,56,56,56,57,57,48,57,49,57,50,57,51,57,52,57,53,57,54,57,55,57,56,57,57]) v60) fun v61 =>
 @bindP AV Ans false (sIdx (.str [48,48,48,49,48,50,48,51,48,52,48,53,48,54,48,55,48,56,48,57,49,48,49,49,49,50,49,51,49,52,49,53,49,54,49,55,49,56,49,57,50,48,50,49,50,50,50,51,50,52,50,53,50,54,50,55,50,56,50,57,51,48,51,49,51,50,51,51,51,52,51,53,51,54,51,55,51,56,51,57,52,48,52,49,52,50,52,51,52,52,52,53,52,54,52,55,52,56,52,57,53,48,53,49,53,50,53,51,53,52,53,53,53,54,53,55,53,56,53,57,54,48,54,49,54,50,54,51,54,52,54,53,54,54,54,55,54,56,54,57,55,48,55,49,55,50,55,51,55,52,55,53,55,54,55,55,55,56,55,57,56,48,56,49,56,50,56,51,56,52,56,53,56,54,56,55,56,56,56,57,57,48,57,49,57,50,57,51,57,52,57,53,57,54,57,55,57,56,57,57]) v57) fun v62 =>
 @bindP AV Ans false (iaddrS 1 a0 v58) fun v63 =>
 @heavyA true (unit2 (st v63 v61)) Ans fun _ =>
 @bindP AV Ans false (iaddrS 1 a0 v59) fun v64 =>
 @heavyA true (unit2 (st v64 v62)) Ans fun _ =>
 @bindP AV Ans false (bn Tryz.prog .sub 3 true v49 (.int .i64 (.ofNat 3))) fun v65 =>
 @bindP AV Ans false (bn Tryz.prog .sub 3 true v49 (.int .i64 (.ofNat 4))) fun v66 =>
 @bindP AV Ans false (bn Tryz.prog .add 307 true v55 (.int .u32 (.ofNat 1))) fun v67 =>
 @bindP AV Ans false (sIdx (.str [48,48,48,49,48,50,48,51,48,52,48,53,48,54,48,55,48,56,48,57,49,48,49,49,49,50,49,51,49,52,49,53,49,54,49,55,49,56,49,57,50,48,50,49,50,50,50,51,50,52,50,53,50,54,50,55,50,56,50,57,51,48,51,49,51,50,51,51,51,52,51,53,51,54,51,55,51,56,51,57,52,48,52,49,52,50,52,51,52,52,52,53,52,54,52,55,52,56,52,57,53,48,53,49,53,50,53,51,53,52,53,53,53,54,53,55,53,56,53,57,54,48,54,49,54,50,54,51,54,52,54,53,54,54,54,55,54,56,54,57,55,48,55,49,55,50,55,51,55,52,55,53,55,54,55,55,55,56,55,57,56,48,56,49,56,50,56,51,56,52,56,53,56,54,56,55,56,56,56,57,57,48,57,49,57,50,57,51,57,52,57,53,57,54,57,55,57,56,57,57]) v67) fun v68 =>
 @bindP AV Ans false (sIdx (.str [48,48,48,49,48,50,48,51,48,52,48,53,48,54,48,55,48,56,48,57,49,48,49,49,49,50,49,51,49,52,49,53,49,54,49,55,49,56,49,57,50,48,50,49,50,50,50,51,50,52,50,53,50,54,50,55,50,56,50,57,51,48,51,49,51,50,51,51,51,52,51,53,51,54,51,55,51,56,51,57,52,48,52,49,52,50,52,51,52,52,52,53,52,54,52,55,52,56,52,57,53,48,53,49,53,50,53,51,53,52,53,53,53,54,53,55,53,56,53,57,54,48,54,49,54,50,54,51,54,52,54,53,54,54,54,55,54,56,54,57,55,48,55,49,55,50,55,51,55,52,55,53,55,54,55,55,55,56,55,57,56,48,56,49,56,50,56,51,56,52,56,53,56,54,56,55,56,56,56,57,57,48,57,49,57,50,57,51,57,52,57,53,57,54,57,55,57,56,57,57]) v55) fun v69 =>
 @bindP AV Ans false (iaddrS 1 a0 v65) fun v70 =>
 @heavyA true (unit2 (st v70 v68)) Ans fun _ =>
 @bindP AV Ans false (iaddrS 1 a0 v66) fun v71 =>
 @heavyA true (unit2 (st v71 v69)) Ans fun _ =>
 @AM.bind AV Ans (bn Tryz.prog .sub 3 true v49 (.int .i64 (.ofNat 4))) fun v72 =>
 @AM.ret Ans (0, [v53, v72])) (
 @AM.ret Ans (0, [v50, v49]))) fun r73 =>
 cond (Nat.beq r73.1 0) (
 (fun (v74 v75 : AV) =>
 @AM.bind AV AV (bn Tryz.prog .geq 3 true v75 (.int .i64 (.ofNat 2))) fun v76 =>
 @AM.bind Ans AV (@bcond Ans v76 (
 @AM.bind AV Ans (bn Tryz.prog .rem 307 true v74 (.int .u32 (.ofNat 100))) fun v77 =>
 @AM.bind AV Ans (bn Tryz.prog .mul 307 true v77 (.int .u32 (.ofNat 2))) fun v78 =>
 @AM.bind AV Ans (bn Tryz.prog .quo 307 true v74 (.int .u32 (.ofNat 100))) fun v79 =>
 @bindP AV Ans false (bn Tryz.prog .sub 3 true v75 (.int .i64 (.ofNat 1))) fun v80 =>
 @bindP AV Ans false (bn Tryz.prog .sub 3 true v75 (.int .i64 (.ofNat 2))) fun v81 =>
 @bindP AV Ans false (bn Tryz.prog .add 307 true v78 (.int .u32 (.ofNat 1))) fun v82 =>
 @bindP AV Ans false (sIdx (.str [48,48,48,49,48,50,48,51,48,52,48,53,48,54,48,55,48,56,48,57,49,48,49,49,49,50,49,51,49,52,49,53,49,54,49,55,49,56,49,57,50,48,50,49,50,50,50,51,50,52,50,53,50,54,50,55,50,56,50,57,51,48,51,49,51,50,51,51,51,52,51,53,51,54,51,55,51,56,51,57,52,48,52,49,52,50,52,51,52,52,52,53,52,54,52,55,52,56,52,57,53,48,53,49,53,50,53,51,53,52,53,53,53,54,53,55,53,56,53,57,54,48,54,49,54,50,54,51,54,52,54,53,54,54,54,55,54,56,54,57,55,48,55,49,55,50,55,51,55,52,55,53,55,54,55,55,55,56,55,57,56,48,56,49,56,50,56,51,56,52,56,53,56,54,56,55,56,56,56,57,57,48,57,49,57,50,57,51,57,52,57,53,57,54,57,55,57,56,57,57]) v82) fun v83 =>
 @bindP AV Ans false (sIdx (.str [48,48,48,49,48,50,48,51,48,52,48,53,48,54,48,55,48,56,48,57,49,48,49,49,49,50,49,51,49,52,49,53,49,54,49,55,49,56,49,57,50,48,50,49,50,50,50,51,50,52,50,53,50,54,50,55,50,56,50,57,51,48,51,49,51,50,51,51,51,52,51,53,51,54,51,55,51,56,51,57,52,48,52,49,52,50,52,51,52,52,52,53,52,54,52,55,52,56,52,57,53,48,53,49,53,50,53,51,53,52,53,53,53,54,53,55,53,56,53,57,54,48,54,49,54,50,54,51,54,52,54,53,54,54,54,55,54,56,54,57,55,48,55,49,55,50,55,51,55,52,55,53,55,54,55,55,55,56,55,57,56,48,56,49,56,50,56,51,56,52,56,53,56,54,56,55,56,56,56,57,57,48,57,49,57,50,57,51,57,52,57,53,57,54,57,55,57,56,57,57]) v78) fun v84 =>
 @bindP AV Ans false (iaddrS 1 a0 v80) fun v85 =>
 @heavyA true (unit2 (st v85 v83)) Ans fun _ =>
 @bindP AV Ans false (iaddrS 1 a0 v81) fun v86 =>
 @heavyA true (unit2 (st v86 v84)) Ans fun _ =>
 @AM.bind AV Ans (bn Tryz.prog .sub 3 true v75 (.int .i64 (.ofNat 2))) fun v87 =>
 @AM.ret Ans (0, [v79, v87])) (
 @AM.ret Ans (0, [v74, v75]))) fun r88 =>
 cond (Nat.beq r88.1 0) (
 (fun (v89 v90 : AV) =>
 @AM.bind AV AV (bn Tryz.prog .gtr 3 true v90 (.int .i64 (.ofNat 0))) fun v91 =>
 @bcond AV v91 (
 @AM.bind AV AV (bn Tryz.prog .add 307 true (.int .u32 (.ofNat 48)) v89) fun v92 =>
 @AM.bind AV AV (convA Tryz.prog 307 5 v92) fun v93 =>
 @AM.bind AV AV (iaddrS 1 a0 (.int .i64 (.ofNat 0))) fun v94 =>
 @AM.bind AV AV (unit2 (st v94 v93)) fun _ =>
 @AM.ret AV (.tuple [])) (
 @AM.ret AV (.tuple []))) (g0 r88.2 0) (g0 r88.2 1)) (.bad)) (g0 r73.2 0) (g0 r73.2 1)) (.bad)) (g0 r47.2 0) (g0 r47.2 1)) (.bad)
/- internal/stringslite.Index -/
noncomputable def F264 (C : CallOp) (Lp : LoopOp) (a0 a1 : AV) : AM AV :=
 @AM.bind AV AV (lenStr a1) fun v0 =>
 @AM.bind AV AV (bn Tryz.prog .eql 3 true v0 (.int .i64 (.ofNat 0))) fun v1 =>
 @AM.bind AV AV (guardA v1 false (.ret a1)) fun v2 =>
 @AM.bind AV AV (guardA v1 false (.ret a0)) fun v3 =>
 @AM.bind AV AV (guardA v1 false (bn Tryz.prog .eql 9 false v2 v3)) fun v4 =>
 @AM.bind AV AV (pickA v1 (.bool true) v4) fun v5 =>
 @bcond AV v5 (
 @AM.ret AV (.int .i64 (.ofNat 0))) (
 @AM.bind AV AV (bn Tryz.prog .eql 3 true v0 (.int .i64 (.ofNat 1))) fun v6 =>
 @bcond AV v6 (
 @AM.bind AV AV (sIdx a1 (.int .i64 (.ofNat 0))) fun v7 =>
 @AM.bind AV AV (C 213 [a0, v7]) fun v8 =>
 @AM.ret AV v8) (
 @AM.bind AV AV (lenStr a0) fun v9 =>
 @AM.bind AV AV (bn Tryz.prog .geq 3 false v0 v9) fun v10 =>
 @bcond AV v10 (
 @AM.ret AV (.int .i64 (.negSucc 0))) (
 @AM.bind AV AV (ld (.ptr (some ⟨0, 0⟩))) fun v11 =>
 @AM.bind AV AV (bn Tryz.prog .leq 3 false v0 v11) fun v12 =>
 @AM.bind AV AV (guardA v12 true (.ret a0)) fun v13 =>
 @AM.bind AV AV (guardA v12 true (lenStr v13)) fun v14 =>
 @AM.bind AV AV (guardA v12 true (bn Tryz.prog .leq 3 true v14 (.int .i64 (.ofNat 64)))) fun v15 =>
 @AM.bind AV AV (pickA v12 v15 (.bool false)) fun v16 =>
 @bcond AV v16 (
 @AM.bind AV AV (C 293 [a0, a1]) fun v17 =>
 @AM.ret AV v17) (
 @AM.bind AV AV (sIdx a1 (.int .i64 (.ofNat 0))) fun v18 =>
 @AM.bind AV AV (sIdx a1 (.int .i64 (.ofNat 1))) fun v19 =>
 @AM.bind AV AV (lenStr a0) fun v20 =>
 @AM.bind AV AV (bn Tryz.prog .sub 3 false v20 v0) fun v21 =>
 @AM.bind AV AV (bn Tryz.prog .add 3 true v21 (.int .i64 (.ofNat 1))) fun v22 =>
 @AM.bind Ans AV (Lp (fun l23 =>
 (fun (v24 v25 v26 : AV) =>
 @AM.bind AV Ans (bn Tryz.prog .lss 3 false v25 v22) fun v27 =>
 @bcond Ans v27 (
 @AM.bind AV Ans (sIdx a0 v25) fun v28 =>
 @AM.bind AV Ans (bn Tryz.prog .neq 5 false v28 v18) fun v29 =>
 @AM.bind Ans Ans (@bcond Ans v29 (
 @AM.bind AV Ans (bn Tryz.prog .add 3 true v25 (.int .i64 (.ofNat 1))) fun v30 =>
 @AM.bind AV Ans (sliceA Tryz.prog 9 a0 (some v30) (some v22) none) fun v31 =>
 @AM.bind AV Ans (C 213 [v31, v18]) fun v32 =>
 @AM.bind AV Ans (bn Tryz.prog .lss 3 true v32 (.int .i64 (.ofNat 0))) fun v33 =>
 @bcond Ans v33 (
 @AM.ret Ans (1, [(.int .i64 (.negSucc 0)), v25])) (
 @AM.bind AV Ans (bn Tryz.prog .add 3 true v32 (.int .i64 (.ofNat 1))) fun v34 =>
 @AM.bind AV Ans (bn Tryz.prog .add 3 false v25 v34) fun v35 =>
 @AM.ret Ans (0, [v24, v35]))) (
 @AM.ret Ans (0, [v24, v25]))) fun r36 =>
 cond (Nat.beq r36.1 1) (
 (fun (v37 v38 : AV) =>
 @AM.ret Ans (1, [v37, v38, v26])) (g0 r36.2 0) (g0 r36.2 1)) (cond (Nat.beq r36.1 0) (
 (fun (v39 v40 : AV) =>
 @AM.bind AV Ans (bn Tryz.prog .add 3 true v40 (.int .i64 (.ofNat 1))) fun v41 =>
 @AM.bind AV Ans (sIdx a0 v41) fun v42 =>
 @AM.bind AV Ans (bn Tryz.prog .eql 5 false v42 v19) fun v43 =>
 @AM.bind AV Ans (guardA v43 true (.ret a0)) fun v44 =>
 @AM.bind AV Ans (guardA v43 true (.ret v40)) fun v45 =>
 @AM.bind AV Ans (guardA v43 true (.ret v40)) fun v46 =>
 @AM.bind AV Ans (guardA v43 true (.ret v0)) fun v47 =>
 @AM.bind AV Ans (guardA v43 true (bn Tryz.prog .add 3 false v46 v47)) fun v48 =>
 @AM.bind AV Ans (guardA v43 true (sliceA Tryz.prog 9 v44 (some v45) (some v48) none)) fun v49 =>
 @AM.bind AV Ans (guardA v43 true (.ret a1)) fun v50 =>
 @AM.bind AV Ans (guardA v43 true (bn Tryz.prog .eql 9 false v49 v50)) fun v51 =>
 @AM.bind AV Ans (pickA v43 v51 (.bool false)) fun v52 =>
 @bcond Ans v52 (
 @AM.ret Ans (1, [v40, v40, v26])) (
 @AM.bind AV Ans (bn Tryz.prog .add 3 true v40 (.int .i64 (.ofNat 1))) fun v53 =>
 @AM.bind AV Ans (bn Tryz.prog .add 3 true v26 (.int .i64 (.ofNat 1))) fun v54 =>
 @AM.bind AV Ans (ld (.ptr (some ⟨0, 0⟩))) fun v55 =>
 @AM.bind AV Ans (bn Tryz.prog .leq 3 false v0 v55) fun v56 =>
 @AM.bind AV Ans (guardA v56 true (.ret v54)) fun v57 =>
 @AM.bind AV Ans (guardA v56 true (.ret v53)) fun v58 =>
 @AM.bind AV Ans (guardA v56 true (C 294 [v58])) fun v59 =>
 @AM.bind AV Ans (guardA v56 true (bn Tryz.prog .gtr 3 false v57 v59)) fun v60 =>
 @AM.bind AV Ans (pickA v56 v60 (.bool false)) fun v61 =>
 @bcond Ans v61 (
 @AM.bind AV Ans (sliceA Tryz.prog 9 a0 (some v53) none none) fun v62 =>
 @AM.bind AV Ans (C 293 [v62, a1]) fun v63 =>
 @AM.bind AV Ans (bn Tryz.prog .geq 3 true v63 (.int .i64 (.ofNat 0))) fun v64 =>
 @bcond Ans v64 (
 @AM.bind AV Ans (bn Tryz.prog .add 3 false v63 v53) fun v65 =>
 @AM.ret Ans (1, [v65, v53, v54])) (
 @AM.ret Ans (1, [(.int .i64 (.negSucc 0)), v53, v54]))) (
 @AM.bind AV Ans (ld (.ptr (some ⟨0, 0⟩))) fun v66 =>
 @AM.bind AV Ans (bn Tryz.prog .gtr 3 false v0 v66) fun v67 =>
 @AM.bind AV Ans (guardA v67 true (.ret v54)) fun v68 =>
 @AM.bind AV Ans (guardA v67 true (.ret v53)) fun v69 =>
 @AM.bind AV Ans (guardA v67 true (bn Tryz.prog .shr 3 true v69 (.int .u64 (.ofNat 4)))) fun v70 =>
 @AM.bind AV Ans (guardA v67 true (bn Tryz.prog .add 3 true (.int .i64 (.ofNat 4)) v70)) fun v71 =>
 @AM.bind AV Ans (guardA v67 true (bn Tryz.prog .geq 3 false v68 v71)) fun v72 =>
 @AM.bind AV Ans (pickA v67 v72 (.bool false)) fun v73 =>
 @AM.bind AV Ans (guardA v73 true (.ret v53)) fun v74 =>
 @AM.bind AV Ans (guardA v73 true (.ret v22)) fun v75 =>
 @AM.bind AV Ans (guardA v73 true (bn Tryz.prog .lss 3 false v74 v75)) fun v76 =>
 @AM.bind AV Ans (pickA v73 v76 (.bool false)) fun v77 =>
 @bcond Ans v77 (
 @AM.bind AV Ans (sliceA Tryz.prog 9 a0 (some v53) none none) fun v78 =>
 @AM.bind AV Ans (C 295 [v78, a1]) fun v79 =>
 @AM.bind AV Ans (bn Tryz.prog .lss 3 true v79 (.int .i64 (.ofNat 0))) fun v80 =>
 @bcond Ans v80 (
 @AM.ret Ans (1, [(.int .i64 (.negSucc 0)), v53, v54])) (
 @AM.bind AV Ans (bn Tryz.prog .add 3 false v53 v79) fun v81 =>
 @AM.ret Ans (1, [v81, v53, v54]))) (
 @AM.ret Ans (0, [v39, v53, v54]))))) (g0 r36.2 0) (g0 r36.2 1)) (.bad))) (
 @AM.ret Ans (3, [v24, v25, v26]))) (g0 l23 0) (g0 l23 1) (g0 l23 2)) [(.int .i64 (.ofNat 0)), (.int .i64 (.ofNat 0)), (.int .i64 (.ofNat 0))]) fun r82 =>
 cond (Nat.beq r82.1 3) (
 (fun (v83 v84 v85 : AV) =>
 @AM.ret AV (.int .i64 (.negSucc 0))) (g0 r82.2 0) (g0 r82.2 1) (g0 r82.2 2)) (cond (Nat.beq r82.1 1) (
 (fun (v86 v87 v88 : AV) =>
 @AM.ret AV v86) (g0 r82.2 0) (g0 r82.2 1) (g0 r82.2 2)) (.bad))))))
/- (*usher/head.Head).starts -/
noncomputable def F268 (C : CallOp) (Lp : LoopOp) (a0 a1 : AV) : AM AV :=
 @AM.bind AV AV (C 168 [a1, (.str [32])]) fun v0 =>
 @AM.bind AV AV (lenSl v0) fun v1 =>
 @AM.bind AV AV (bn Tryz.prog .neq 3 true v1 (.int .i64 (.ofNat 3))) fun v2 =>
 @AM.bind AV AV (guardA v2 false (.ret v0)) fun v3 =>
 @AM.bind AV AV (guardA v2 false (iaddrS 1 v3 (.int .i64 (.ofNat 0)))) fun v4 =>
 @AM.bind AV AV (guardA v2 false (ld v4)) fun v5 =>
 @AM.bind AV AV (guardA v2 false (C 125 [v5])) fun v6 =>
 @AM.bind AV AV (guardA v2 false (un .not v6)) fun v7 =>
 @AM.bind AV AV (pickA v2 (.bool true) v7) fun v8 =>
 @bcond AV v8 (
 @AM.ret AV (.int .i64 (.ofNat 400))) (
 @AM.bind AV AV (iaddrS 1 v0 (.int .i64 (.ofNat 2))) fun v9 =>
 @AM.bind AV AV (ld v9) fun v10 =>
 @AM.bind AV AV (C 297 [v10, (.str [72,84,84,80,47])]) fun v11 =>
 @AM.bind AV AV (extA v11 0) fun v12 =>
 @AM.bind AV AV (extA v11 1) fun v13 =>
 @AM.bind AV AV (un .not v13) fun v14 =>
 @AM.bind AV AV (guardA v14 false (.ret v12)) fun v15 =>
 @AM.bind AV AV (guardA v14 false (lenStr v15)) fun v16 =>
 @AM.bind AV AV (guardA v14 false (bn Tryz.prog .neq 3 true v16 (.int .i64 (.ofNat 3)))) fun v17 =>
 @AM.bind AV AV (pickA v14 (.bool true) v17) fun v18 =>
 @AM.bind AV AV (guardA v18 false (.ret v12)) fun v19 =>
 @AM.bind AV AV (guardA v18 false (sIdx v19 (.int .i64 (.ofNat 0)))) fun v20 =>
 @AM.bind AV AV (guardA v18 false (C 298 [v20])) fun v21 =>
 @AM.bind AV AV (guardA v18 false (un .not v21)) fun v22 =>
 @AM.bind AV AV (pickA v18 (.bool true) v22) fun v23 =>
 @AM.bind AV AV (guardA v23 false (.ret v12)) fun v24 =>
 @AM.bind AV AV (guardA v23 false (sIdx v24 (.int .i64 (.ofNat 1)))) fun v25 =>
 @AM.bind AV AV (guardA v23 false (bn Tryz.prog .neq 5 true v25 (.int .u8 (.ofNat 46)))) fun v26 =>
 @AM.bind AV AV (pickA v23 (.bool true) v26) fun v27 =>
 @AM.bind AV AV (guardA v27 false (.ret v12)) fun v28 =>
 @AM.bind AV AV (guardA v27 false (sIdx v28 (.int .i64 (.ofNat 2)))) fun v29 =>
 @AM.bind AV AV (guardA v27 false (C 298 [v29])) fun v30 =>
 @AM.bind AV AV (guardA v27 false (un .not v30)) fun v31 =>
 @AM.bind AV AV (pickA v27 (.bool true) v31) fun v32 =>
 @bcond AV v32 (
 @AM.ret AV (.int .i64 (.ofNat 400))) (
 @AM.bind AV AV (sIdx v12 (.int .i64 (.ofNat 0))) fun v33 =>
 @AM.bind AV AV (bn Tryz.prog .neq 5 true v33 (.int .u8 (.ofNat 49))) fun v34 =>
 @bcond AV v34 (
 @AM.ret AV (.int .i64 (.ofNat 505))) (
 @bindP AV AV false (iaddrS 1 v0 (.int .i64 (.ofNat 0))) fun v35 =>
 @bindP AV AV false (ld v35) fun v36 =>
 @bindP AV AV false (iaddrS 1 v0 (.int .i64 (.ofNat 1))) fun v37 =>
 @bindP AV AV false (ld v37) fun v38 =>
 @heavyA false (C 299 [v36, v38]) AV fun v39 =>
 @bindP AV AV false (extA v39 0) fun v40 =>
 @bindP AV AV false (extA v39 1) fun v41 =>
 @bindP AV AV false (nw [(.int .i64 (.ofNat 0)), (.str []), (.str []), (.str [])]) fun v42 =>
 @heavyA true (unit2 (stN 4 v42 v40)) AV fun _ =>
 @AM.bind AV AV (bn Tryz.prog .eql 76 true v41 (.int .i64 (.ofNat 0))) fun v43 =>
 @bcond AV v43 (
 @bindP AV AV false (iaddrS 1 v0 (.int .i64 (.ofNat 0))) fun v44 =>
 @bindP AV AV false (ld v44) fun v45 =>
 fun h47 => @bindP AV AV false (ldN 4 v42) (fun v46 =>
 @bindP AV AV false (nilC a0) fun v49 =>
 @bindP AV AV false (faddr 7 v49) fun v50 =>
 fun h51 => @bindP AV AV true (unit2 (st v50 (.bool true))) (fun _ h52 => cond (Nat.ble h51.next h52.next && (AV.under h47.next v46 && (sameS (ldN 4 v42) v46 h52 && true))) ((
 @bindP AV AV false (nilC a0) fun v53 =>
 @bindP AV AV false (faddr 1 v53) fun v54 =>
 fun h55 => @bindP AV AV true (unit2 (st v54 v45)) (fun _ h56 => cond (Nat.ble h55.next h56.next && (AV.under h47.next v46 && (sameS (ldN 4 v42) v46 h56 && true))) ((
 @bindP AV AV false (nilC a0) fun v57 =>
 @bindP AV AV false (faddr 2 v57) fun v58 =>
 @heavyA true (unit2 (stN 4 v58 v46)) AV fun _ =>
 @bindP AV AV false (nilC a0) fun v59 =>
 @bindP AV AV false (faddr 6 v59) fun v60 =>
 @heavyA true (unit2 (st v60 (.int .i64 (.ofNat 1)))) AV fun _ =>
 @AM.bind AV AV (sIdx v12 (.int .i64 (.ofNat 2))) fun v61 =>
 @AM.bind AV AV (bn Tryz.prog .eql 5 true v61 (.int .u8 (.ofNat 48))) fun v62 =>
 @AM.bind Ans AV (@bcond Ans v62 (
 @AM.bind AV Ans (nilC a0) fun v63 =>
 @AM.bind AV Ans (faddr 6 v63) fun v64 =>
 @AM.bind AV Ans (unit2 (st v64 (.int .i64 (.ofNat 0)))) fun _ =>
 @AM.ret Ans (0, [])) (
 @AM.ret Ans (0, []))) fun r65 =>
 cond (Nat.beq r65.1 0) (
 @AM.ret AV (.int .i64 (.ofNat 0))) (.bad)) h56) .bad) h55) h52) .bad) h51) h47) (
 @AM.bind AV AV (bn Tryz.prog .eql 76 true v41 (.int .i64 (.ofNat 9))) fun v66 =>
 @bcond AV v66 (
 @AM.ret AV (.int .i64 (.ofNat 414))) (
 @AM.ret AV (.int .i64 (.ofNat 400)))))))
/- usher/framing.Of -/
noncomputable def F269 (C : CallOp) (Lp : LoopOp) (a0 a1 : AV) : AM AV :=
 @AM.bind AV AV (nw [(.int .i64 (.ofNat 0)), (.int .i64 (.ofNat 0)), (.bool false), (.bool false)]) fun v0 =>
 @AM.bind AV AV (nw [(.int .i64 (.ofNat 0))]) fun v1 =>
 defB (
 @AM.bind AV Unit (bn Tryz.prog .geq 3 true a0 (.int .i64 (.ofNat 1))) fun v2 =>
 @AM.bind AV Unit (C 225 [a1, (.str [72,111,115,116])]) fun v3 =>
 @AM.bind AV Unit (lenSl v3) fun v4 =>
 @AM.bind AV Unit (bn Tryz.prog .leq 3 true v4 (.int .i64 (.ofNat 1))) fun v5 =>
 @AM.bind AV Unit (guardA v5 true (.ret v3)) fun v6 =>
 @AM.bind AV Unit (guardA v5 true (lenSl v6)) fun v7 =>
 @AM.bind AV Unit (guardA v5 true (bn Tryz.prog .eql 3 true v7 (.int .i64 (.ofNat 1)))) fun v8 =>
 @AM.bind AV Unit (guardA v5 true (.ret v8)) fun v9 =>
 @AM.bind AV Unit (guardA v9 false (.ret v2)) fun v10 =>
 @AM.bind AV Unit (guardA v9 false (un .not v10)) fun v11 =>
 @AM.bind AV Unit (guardA v5 true (pickA v9 (.bool true) v11)) fun v12 =>
 @AM.bind AV Unit (pickA v5 v12 (.bool false)) fun v13 =>
 @AM.bind AV Unit (C 301 [v13, (.int .i64 (.ofNat 400))]) fun v14 =>
 @AM.bind AV Unit (lenSl v3) fun v15 =>
 @AM.bind AV Unit (bn Tryz.prog .eql 3 true v15 (.int .i64 (.ofNat 0))) fun v16 =>
 @AM.bind AV Unit (guardA v16 false (.ret v3)) fun v17 =>
 @AM.bind AV Unit (guardA v16 false (iaddrS 1 v17 (.int .i64 (.ofNat 0)))) fun v18 =>
 @AM.bind AV Unit (guardA v16 false (ld v18)) fun v19 =>
 @AM.bind AV Unit (guardA v16 false (bn Tryz.prog .eql 9 true v19 (.str []))) fun v20 =>
 @AM.bind AV Unit (pickA v16 (.bool true) v20) fun v21 =>
 @AM.bind AV Unit (guardA v21 false (.ret v3)) fun v22 =>
 @AM.bind AV Unit (guardA v21 false (iaddrS 1 v22 (.int .i64 (.ofNat 0)))) fun v23 =>
 @AM.bind AV Unit (guardA v21 false (ld v23)) fun v24 =>
 @AM.bind AV Unit (guardA v21 false (C 302 [v24])) fun v25 =>
 @AM.bind AV Unit (pickA v21 (.bool true) v25) fun v26 =>
 @AM.bind AV Unit (C 301 [v26, (.int .i64 (.ofNat 400))]) fun v27 =>
 @AM.bind AV Unit (C 303 [a1, (.str [84,114,97,110,115,102,101,114,45,69,110,99,111,100,105,110,103])]) fun v28 =>
 @AM.bind Ans Unit (@bcond Ans v28 (
 @AM.bind AV Ans (guardA v2 true (.ret a1)) fun v29 =>
 @AM.bind AV Ans (guardA v2 true (C 303 [v29, (.str [67,111,110,116,101,110,116,45,76,101,110,103,116,104])])) fun v30 =>
 @AM.bind AV Ans (guardA v2 true (un .not v30)) fun v31 =>
 @AM.bind AV Ans (pickA v2 v31 (.bool false)) fun v32 =>
 @AM.bind AV Ans (C 301 [v32, (.int .i64 (.ofNat 400))]) fun v33 =>
 @AM.bind AV Ans (C 305 [a1, (.str [84,114,97,110,115,102,101,114,45,69,110,99,111,100,105,110,103])]) fun v34 =>
 @AM.bind AV Ans (C 304 [v34]) fun v35 =>
 @AM.bind AV Ans (faddr 0 v0) fun v36 =>
 @AM.bind AV Ans (unit2 (st v36 (.int .i64 (.ofNat 2)))) fun _ =>
 @AM.ret Ans (0, [])) (
 @AM.bind AV Ans (C 303 [a1, (.str [67,111,110,116,101,110,116,45,76,101,110,103,116,104])]) fun v37 =>
 @bcond Ans v37 (
 @AM.bind AV Ans (C 305 [a1, (.str [67,111,110,116,101,110,116,45,76,101,110,103,116,104])]) fun v38 =>
 @AM.bind AV Ans (C 306 [v38]) fun v39 =>
 @AM.bind AV Ans (faddr 0 v0) fun v40 =>
 @AM.bind AV Ans (unit2 (st v40 (.int .i64 (.ofNat 1)))) fun _ =>
 @AM.bind AV Ans (faddr 1 v0) fun v41 =>
 @AM.bind AV Ans (unit2 (st v41 v39)) fun _ =>
 @AM.ret Ans (0, [])) (
 @AM.ret Ans (0, [])))) fun r42 =>
 cond (Nat.beq r42.1 0) (
 @AM.bind AV Unit (C 305 [a1, (.str [67,111,110,110,101,99,116,105,111,110])]) fun v43 =>
 @AM.bind AV Unit (C 127 [v43, (.str [99,108,111,115,101])]) fun v44 =>
 @AM.bind AV Unit (guardA v44 false (.ret v2)) fun v45 =>
 @AM.bind AV Unit (guardA v44 false (un .not v45)) fun v46 =>
 @AM.bind AV Unit (guardA v44 false (.ret v46)) fun v47 =>
 @AM.bind AV Unit (guardA v47 true (.ret v43)) fun v48 =>
 @AM.bind AV Unit (guardA v47 true (C 127 [v48, (.str [107,101,101,112,45,97,108,105,118,101])])) fun v49 =>
 @AM.bind AV Unit (guardA v47 true (un .not v49)) fun v50 =>
 @AM.bind AV Unit (guardA v44 false (pickA v47 v50 (.bool false))) fun v51 =>
 @AM.bind AV Unit (pickA v44 (.bool true) v51) fun v52 =>
 @AM.bind AV Unit (faddr 2 v0) fun v53 =>
 @AM.bind AV Unit (unit2 (st v53 v52)) fun _ =>
 @AM.bind AV Unit (guardA v2 true (.ret a1)) fun v54 =>
 @AM.bind AV Unit (guardA v2 true (C 303 [v54, (.str [69,120,112,101,99,116])])) fun v55 =>
 @AM.bind AV Unit (pickA v2 v55 (.bool false)) fun v56 =>
 @AM.bind Ans Unit (@bcond Ans v56 (
 @AM.bind AV Ans (C 186 [a1, (.str [69,120,112,101,99,116])]) fun v57 =>
 @AM.bind AV Ans (C 233 [v57, (.str [49,48,48,45,99,111,110,116,105,110,117,101])]) fun v58 =>
 @AM.bind AV Ans (C 301 [v58, (.int .i64 (.ofNat 417))]) fun v59 =>
 @AM.bind AV Ans (faddr 0 v0) fun v60 =>
 @AM.bind AV Ans (ld v60) fun v61 =>
 @AM.bind AV Ans (bn Tryz.prog .eql 3 true v61 (.int .i64 (.ofNat 2))) fun v62 =>
 @AM.bind AV Ans (guardA v62 false (faddr 1 v0)) fun v63 =>
 @AM.bind AV Ans (guardA v62 false (ld v63)) fun v64 =>
 @AM.bind AV Ans (guardA v62 false (bn Tryz.prog .gtr 3 true v64 (.int .i64 (.ofNat 0)))) fun v65 =>
 @AM.bind AV Ans (pickA v62 (.bool true) v65) fun v66 =>
 @AM.bind AV Ans (faddr 3 v0) fun v67 =>
 @AM.bind AV Ans (unit2 (st v67 v66)) fun _ =>
 @AM.ret Ans (0, [])) (
 @AM.ret Ans (0, []))) fun r68 =>
 cond (Nat.beq r68.1 0) (
 @AM.bind AV Unit (ldN 4 v0) fun v69 =>
 @AM.bind AV Unit (unit2 (stN 4 v0 v69)) fun _ =>
 @AM.bind AV Unit (unit2 (st v1 (.int .i64 (.ofNat 0)))) fun _ =>
 @AM.ret Unit ()) (.bad)) (.bad)) (fun rv70 =>
 @AM.bind AV Unit (bn Tryz.prog .eql 20 true rv70 .nilIface) fun v71 =>
 @bcond Unit v71 (
 @AM.ret Unit ()) (
 @AM.bind AV Unit (assertA Tryz.prog rv70 324) fun v72 =>
 @AM.bind AV Unit (extA v72 1) fun v73 =>
 @AM.bind AV Unit (extA v72 0) fun v74 =>
 @bcond Unit v73 (
 @AM.bind AV Unit (nw [(.int .i64 (.ofNat 0))]) fun v75 =>
 @AM.bind AV Unit (unit2 (stN 1 v75 v74)) fun _ =>
 @bindP AV Unit false (bld [(.int .i64 (.ofNat 0)), (.int .i64 (.ofNat 0)), (.bool false), (.bool false)] []) fun v76 =>
 @bindP AV Unit false (faddr 0 v75) fun v77 =>
 fun h79 => @bindP AV Unit false (ld v77) (fun v78 =>
 fun h81 => @bindP AV Unit true (unit2 (stN 4 v0 v76)) (fun _ h82 => cond (Nat.ble h81.next h82.next && (AV.under h79.next v78 && (sameS (ld v77) v78 h82 && true))) ((
 @heavyA true (unit2 (st v1 v78)) Unit fun _ =>
 @AM.ret Unit ()) h82) .bad) h81) h79) (
 @AM.bind AV Unit (panA rv70) fun _ =>
 @AM.ret Unit ()))) (
 @AM.bind (List AV) AV (@AM.bind AV (List AV) (ldN 4 v0) fun w84 => @AM.bind (List AV) (List AV) (@AM.bind AV (List AV) (ld v1) fun w83 => @AM.ret (List AV) (w83 :: [])) fun w85 => @AM.ret (List AV) (w84 :: w85)) fun w86 => @AM.ret AV (.tuple w86))
/- (*usher/head.Head).adds -/
noncomputable def F270 (C : CallOp) (Lp : LoopOp) (a0 a1 : AV) : AM AV :=
 @AM.bind AV AV (C 307 [a1]) fun v0 =>
 @AM.bind AV AV (extA v0 0) fun v1 =>
 @AM.bind AV AV (extA v0 1) fun v2 =>
 @AM.bind AV AV (nw [(.str []), (.str [])]) fun v3 =>
 @AM.bind AV AV (unit2 (stN 2 v3 v1)) fun _ =>
 @AM.bind AV AV (bn Tryz.prog .neq 76 true v2 (.int .i64 (.ofNat 0))) fun v4 =>
 @bcond AV v4 (
 @AM.ret AV (.int .i64 (.ofNat 400))) (
 @bindP AV AV false (nilC a0) fun v5 =>
 @bindP AV AV false (faddr 0 v5) fun v6 =>
 @bindP AV AV false (ld v6) fun v7 =>
 @bindP AV AV false (ldN 2 v3) fun v8 =>
 @bindP AV AV false (bsl [(.str []), (.str [])] [(0, 2, v8)] 1 2) fun v9 =>
 @heavyA true (C 197 [v7, v9]) AV fun v10 =>
 @bindP AV AV false (extA v10 0) fun v11 =>
 @bindP AV AV false (extA v10 1) fun v12 =>
 @AM.bind AV AV (bn Tryz.prog .neq 76 true v12 (.int .i64 (.ofNat 0))) fun v13 =>
 @bcond AV v13 (
 @AM.ret AV (.int .i64 (.ofNat 431))) (
 @AM.ret AV (.int .i64 (.ofNat 0))))
/- math/bits.Len64 -/
noncomputable def F283 (C : CallOp) (Lp : LoopOp) (a0 : AV) : AM AV :=
 @AM.bind AV AV (bn Tryz.prog .geq 289 true a0 (.int .u64 (.ofNat 4294967296))) fun v0 =>
 @AM.bind Ans AV (@bcond Ans v0 (
 @AM.bind AV Ans (bn Tryz.prog .shr 289 true a0 (.int .u64 (.ofNat 32))) fun v1 =>
 @AM.ret Ans (0, [v1, (.int .i64 (.ofNat 32))])) (
 @AM.ret Ans (0, [a0, (.int .i64 (.ofNat 0))]))) fun r2 =>
 cond (Nat.beq r2.1 0) (
 (fun (v3 v4 : AV) =>
 @AM.bind AV AV (bn Tryz.prog .geq 289 true v3 (.int .u64 (.ofNat 65536))) fun v5 =>
 @AM.bind Ans AV (@bcond Ans v5 (
 @AM.bind AV Ans (bn Tryz.prog .shr 289 true v3 (.int .u64 (.ofNat 16))) fun v6 =>
 @AM.bind AV Ans (bn Tryz.prog .add 3 true v4 (.int .i64 (.ofNat 16))) fun v7 =>
 @AM.ret Ans (0, [v6, v7])) (
 @AM.ret Ans (0, [v3, v4]))) fun r8 =>
 cond (Nat.beq r8.1 0) (
 (fun (v9 v10 : AV) =>
 @AM.bind AV AV (bn Tryz.prog .geq 289 true v9 (.int .u64 (.ofNat 256))) fun v11 =>
 @AM.bind Ans AV (@bcond Ans v11 (
 @AM.bind AV Ans (bn Tryz.prog .shr 289 true v9 (.int .u64 (.ofNat 8))) fun v12 =>
 @AM.bind AV Ans (bn Tryz.prog .add 3 true v10 (.int .i64 (.ofNat 8))) fun v13 =>
 @AM.ret Ans (0, [v12, v13])) (
 @AM.ret Ans (0, [v9, v10]))) fun r14 =>
 cond (Nat.beq r14.1 0) (
 (fun (v15 v16 : AV) =>
 @AM.bind AV AV (convA Tryz.prog 289 5 v15) fun v17 =>
 @AM.bind AV AV (sIdx (.str [0,1,2,2,3,3,3,3,4,4,4,4,4,4,4,4,5,5,5,5,5,5,5,5,5,5,5,5,5,5,5,5,6,6,6,6,6,6,6,6,6,6,6,6,6,6,6,6,6,6,6,6,6,6,6,6,6,6,6,6,6,6,6,6,7,7,7,7,7,7,7,7,7,7,7,7,7,7,7,7,7,7,7,7,7,7,7,7,7,7,7,7,7,7,7,7,7,7,7,7,7,7,7,7,7,7,7,7,7,7,7,7,7,7,7,7,7,7,7,7,7,7,7,7,7,7,7,7,8,8,8,8,8,8,8,8,8,8,8,8,8,8,8,8,8,8,8,8,8,8,8,8,8,8,8,8,8,8,8,8,8,8,8,8,8,8,8,8,8,8,8,8,8,8,8,8,8,8,8,8,8,8,8,8,8,8,8,8,8,8,8,8,8,8,8,8,8,8,8,8,8,8,8,8,8,8,8,8,8,8,8,8,8,8,8,8,8,8,8,8,8,8,8,8,8,8,8,8,8,8,8,8,8,8,8,8,8,8,8,8,8,8,8,8,8,8,8,8,8,8,8,8,8,8,8,8]) v17) fun v18 =>
 @AM.bind AV AV (convA Tryz.prog 5 3 v18) fun v19 =>
 @AM.bind AV AV (bn Tryz.prog .add 3 false v16 v19) fun v20 =>
 @AM.ret AV v20) (g0 r14.2 0) (g0 r14.2 1)) (.bad)) (g0 r8.2 0) (g0 r8.2 1)) (.bad)) (g0 r2.2 0) (g0 r2.2 1)) (.bad)
/- internal/strconv.log10Pow2 -/
noncomputable def F289 (C : CallOp) (Lp : LoopOp) (a0 : AV) : AM AV :=
 @AM.bind AV AV (bn Tryz.prog .mul 3 true a0 (.int .i64 (.ofNat 78913))) fun v0 =>
 @AM.bind AV AV (bn Tryz.prog .shr 3 true v0 (.int .u64 (.ofNat 18))) fun v1 =>
 @AM.ret AV v1
/- internal/strconv.bool2[int] -/
noncomputable def F290 (C : CallOp) (Lp : LoopOp) (a0 : AV) : AM AV :=
 @bcond AV a0 (
 @AM.ret AV (.int .i64 (.ofNat 1))) (
 @AM.ret AV (.int .i64 (.ofNat 0)))
/- strings.CutPrefix -/
noncomputable def F297 (C : CallOp) (Lp : LoopOp) (a0 a1 : AV) : AM AV :=
 @AM.bind AV AV (C 330 [a0, a1]) fun v0 =>
 @AM.bind AV AV (extA v0 0) fun v1 =>
 @AM.bind AV AV (extA v0 1) fun v2 =>
 @AM.ret AV (.tuple (v1 :: (v2 :: [])))
/- usher/head.isDigit -/
noncomputable def F298 (C : CallOp) (Lp : LoopOp) (a0 : AV) : AM AV :=
 @AM.bind AV AV (bn Tryz.prog .geq 5 true a0 (.int .u8 (.ofNat 48))) fun v0 =>
 @AM.bind AV AV (guardA v0 true (.ret a0)) fun v1 =>
 @AM.bind AV AV (guardA v0 true (bn Tryz.prog .leq 5 true v1 (.int .u8 (.ofNat 57)))) fun v2 =>
 @AM.bind AV AV (pickA v0 v2 (.bool false)) fun v3 =>
 @AM.ret AV v3
/- usher/target.Parse -/
noncomputable def F299 (C : CallOp) (Lp : LoopOp) (a0 a1 : AV) : AM AV :=
 @AM.bind AV AV (nw [(.int .i64 (.ofNat 0)), (.str []), (.str []), (.str [])]) fun v0 =>
 @AM.bind AV AV (lenStr a1) fun v1 =>
 @AM.bind AV AV (bn Tryz.prog .gtr 3 true v1 (.int .i64 (.ofNat 200))) fun v2 =>
 @bcond AV v2 (
 @AM.bind AV AV (bld [(.int .i64 (.ofNat 0)), (.str []), (.str []), (.str [])] []) fun v3 =>
 @AM.bind AV AV (unit2 (stN 4 v0 v3)) fun _ =>
 @AM.bind (List AV) AV (@AM.bind AV (List AV) (ldN 4 v0) fun w4 => @AM.ret (List AV) (w4 :: ((.int .i64 (.ofNat 9)) :: []))) fun w5 => @AM.ret AV (.tuple w5)) (
 @AM.bind AV AV (bn Tryz.prog .eql 9 true a0 (.str [67,79,78,78,69,67,84])) fun v6 =>
 @bcond AV v6 (
 @AM.bind AV AV (C 331 [a1, (.str [58])]) fun v7 =>
 @AM.bind AV AV (un .not v7) fun v8 =>
 @AM.bind AV AV (guardA v8 false (.ret a1)) fun v9 =>
 @AM.bind AV AV (guardA v8 false (C 302 [v9])) fun v10 =>
 @AM.bind AV AV (guardA v8 false (un .not v10)) fun v11 =>
 @AM.bind AV AV (pickA v8 (.bool true) v11) fun v12 =>
 @bcond AV v12 (
 @AM.bind AV AV (bld [(.int .i64 (.ofNat 0)), (.str []), (.str []), (.str [])] []) fun v13 =>
 @AM.bind AV AV (unit2 (stN 4 v0 v13)) fun _ =>
 @AM.bind (List AV) AV (@AM.bind AV (List AV) (ldN 4 v0) fun w14 => @AM.ret (List AV) (w14 :: ((.int .i64 (.ofNat 8)) :: []))) fun w15 => @AM.ret AV (.tuple w15)) (
 @AM.bind AV AV (C 255 [a1]) fun v16 =>
 @AM.bind AV AV (bld [(.int .i64 (.ofNat 0)), (.str []), (.str []), (.str [])] [(0, 1, (.int .i64 (.ofNat 3))), (1, 1, v16)]) fun v17 =>
 @AM.bind AV AV (unit2 (stN 4 v0 v17)) fun _ =>
 @AM.bind (List AV) AV (@AM.bind AV (List AV) (ldN 4 v0) fun w18 => @AM.ret (List AV) (w18 :: ((.int .i64 (.ofNat 0)) :: []))) fun w19 => @AM.ret AV (.tuple w19))) (
 @AM.bind AV AV (bn Tryz.prog .eql 9 true a0 (.str [79,80,84,73,79,78,83])) fun v20 =>
 @AM.bind AV AV (guardA v20 true (.ret a1)) fun v21 =>
 @AM.bind AV AV (guardA v20 true (bn Tryz.prog .eql 9 true v21 (.str [42]))) fun v22 =>
 @AM.bind AV AV (pickA v20 v22 (.bool false)) fun v23 =>
 @bcond AV v23 (
 @AM.bind AV AV (bld [(.int .i64 (.ofNat 0)), (.str []), (.str []), (.str [])] [(0, 1, (.int .i64 (.ofNat 4)))]) fun v24 =>
 @AM.bind AV AV (unit2 (stN 4 v0 v24)) fun _ =>
 @AM.bind (List AV) AV (@AM.bind AV (List AV) (ldN 4 v0) fun w25 => @AM.ret (List AV) (w25 :: ((.int .i64 (.ofNat 0)) :: []))) fun w26 => @AM.ret AV (.tuple w26)) (
 @AM.bind AV AV (C 188 [a1, (.str [47])]) fun v27 =>
 @bcond AV v27 (
 @AM.bind AV AV (bld [(.int .i64 (.ofNat 0)), (.str []), (.str []), (.str [])] [(0, 1, (.int .i64 (.ofNat 1)))]) fun v28 =>
 @AM.bind AV AV (C 332 [v28, a1]) fun v29 =>
 @AM.bind AV AV (extA v29 0) fun v30 =>
 @AM.bind AV AV (extA v29 1) fun v31 =>
 @AM.bind AV AV (unit2 (stN 4 v0 v30)) fun _ =>
 @AM.bind (List AV) AV (@AM.bind AV (List AV) (ldN 4 v0) fun w32 => @AM.ret (List AV) (w32 :: (v31 :: []))) fun w33 => @AM.ret AV (.tuple w33)) (
 @AM.bind AV AV (C 255 [a1]) fun v34 =>
 @AM.bind AV AV (C 188 [v34, (.str [104,116,116,112,58,47,47])]) fun v35 =>
 @bcond AV v35 (
 @AM.bind AV AV (sliceA Tryz.prog 9 a1 (some (.int .i64 (.ofNat 7))) none none) fun v36 =>
 @AM.bind AV AV (C 177 [v36, (.int .u8 (.ofNat 47))]) fun v37 =>
 @AM.bind AV AV (bn Tryz.prog .geq 3 true v37 (.int .i64 (.ofNat 0))) fun v38 =>
 @AM.bind Ans AV (@bcond Ans v38 (
 @AM.bind AV Ans (sliceA Tryz.prog 9 v36 none (some v37) none) fun v39 =>
 @AM.ret Ans (0, [v39])) (
 @AM.ret Ans (0, [v36]))) fun r40 =>
 cond (Nat.beq r40.1 0) (
 (fun (v41 : AV) =>
 @AM.bind AV AV (C 177 [v41, (.int .u8 (.ofNat 63))]) fun v42 =>
 @AM.bind AV AV (bn Tryz.prog .geq 3 true v42 (.int .i64 (.ofNat 0))) fun v43 =>
 @AM.bind Ans AV (@bcond Ans v43 (
 @AM.bind AV Ans (sliceA Tryz.prog 9 v41 none (some v42) none) fun v44 =>
 @AM.ret Ans (0, [v44])) (
 @AM.ret Ans (0, [v41]))) fun r45 =>
 cond (Nat.beq r45.1 0) (
 (fun (v46 : AV) =>
 @AM.bind AV AV (lenStr v46) fun v47 =>
 @AM.bind AV AV (sliceA Tryz.prog 9 v36 (some v47) none none) fun v48 =>
 @AM.bind AV AV (C 302 [v46]) fun v49 =>
 @AM.bind AV AV (un .not v49) fun v50 =>
 @bcond AV v50 (
 @AM.bind AV AV (bld [(.int .i64 (.ofNat 0)), (.str []), (.str []), (.str [])] []) fun v51 =>
 @AM.bind AV AV (unit2 (stN 4 v0 v51)) fun _ =>
 @AM.bind (List AV) AV (@AM.bind AV (List AV) (ldN 4 v0) fun w52 => @AM.ret (List AV) (w52 :: ((.int .i64 (.ofNat 8)) :: []))) fun w53 => @AM.ret AV (.tuple w53)) (
 @AM.bind AV AV (C 188 [v48, (.str [47])]) fun v54 =>
 @AM.bind AV AV (un .not v54) fun v55 =>
 @AM.bind Ans AV (@bcond Ans v55 (
 @AM.bind AV Ans (bn Tryz.prog .add 9 true (.str [47]) v48) fun v56 =>
 @AM.ret Ans (0, [v56])) (
 @AM.ret Ans (0, [v48]))) fun r57 =>
 cond (Nat.beq r57.1 0) (
 (fun (v58 : AV) =>
 @AM.bind AV AV (C 255 [v46]) fun v59 =>
 @AM.bind AV AV (bld [(.int .i64 (.ofNat 0)), (.str []), (.str []), (.str [])] [(0, 1, (.int .i64 (.ofNat 2))), (1, 1, v59)]) fun v60 =>
 @AM.bind AV AV (C 332 [v60, v58]) fun v61 =>
 @AM.bind AV AV (extA v61 0) fun v62 =>
 @AM.bind AV AV (extA v61 1) fun v63 =>
 @AM.bind AV AV (unit2 (stN 4 v0 v62)) fun _ =>
 @AM.bind (List AV) AV (@AM.bind AV (List AV) (ldN 4 v0) fun w64 => @AM.ret (List AV) (w64 :: (v63 :: []))) fun w65 => @AM.ret AV (.tuple w65)) (g0 r57.2 0)) (.bad))) (g0 r45.2 0)) (.bad)) (g0 r40.2 0)) (.bad)) (
 @AM.bind AV AV (bld [(.int .i64 (.ofNat 0)), (.str []), (.str []), (.str [])] []) fun v66 =>
 @AM.bind AV AV (unit2 (stN 4 v0 v66)) fun _ =>
 @AM.bind (List AV) AV (@AM.bind AV (List AV) (ldN 4 v0) fun w67 => @AM.ret (List AV) (w67 :: ((.int .i64 (.ofNat 8)) :: []))) fun w68 => @AM.ret AV (.tuple w68))))))
/- usher/framing.must -/
noncomputable def F301 (C : CallOp) (Lp : LoopOp) (a0 a1 : AV) : AM AV :=
 @AM.bind AV AV (un .not a0) fun v0 =>
 @bcond AV v0 (
 @AM.bind AV AV (bld [(.int .i64 (.ofNat 0))] [(0, 1, a1)]) fun v1 =>
 @AM.bind AV AV (panA (.iface 324 v1)) fun _ =>
 @AM.ret AV (.tuple [])) (
 @AM.ret AV (.tuple []))
/- usher/target.Host -/
noncomputable def F302 (C : CallOp) (Lp : LoopOp) (a0 : AV) : AM AV :=
 @AM.bind AV AV (C 333 [a0, (.str [58])]) fun v0 =>
 @AM.bind AV AV (extA v0 0) fun v1 =>
 @AM.bind AV AV (extA v0 1) fun v2 =>
 @AM.bind AV AV (extA v0 2) fun v3 =>
 @AM.bind Ans AV (@bcond Ans v3 (
 @AM.bind AV Ans (C 334 [v2]) fun v4 =>
 @AM.bind AV Ans (extA v4 0) fun v5 =>
 @AM.bind AV Ans (extA v4 1) fun v6 =>
 @AM.bind AV Ans (un .not v6) fun v7 =>
 @AM.bind AV Ans (guardA v7 false (.ret v2)) fun v8 =>
 @AM.bind AV Ans (guardA v7 false (lenStr v8)) fun v9 =>
 @AM.bind AV Ans (guardA v7 false (bn Tryz.prog .gtr 3 true v9 (.int .i64 (.ofNat 5)))) fun v10 =>
 @AM.bind AV Ans (pickA v7 (.bool true) v10) fun v11 =>
 @AM.bind AV Ans (guardA v11 false (.ret v5)) fun v12 =>
 @AM.bind AV Ans (guardA v11 false (bn Tryz.prog .gtr 3 true v12 (.int .i64 (.ofNat 65535)))) fun v13 =>
 @AM.bind AV Ans (pickA v11 (.bool true) v13) fun v14 =>
 @bcond Ans v14 (
 @AM.ret Ans (1, [(.bool false)])) (
 @AM.ret Ans (0, [(.bool false)]))) (
 @AM.ret Ans (0, [(.bool false)]))) fun r15 =>
 cond (Nat.beq r15.1 1) (
 (fun (v16 : AV) =>
 @AM.ret AV v16) (g0 r15.2 0)) (cond (Nat.beq r15.1 0) (
 (fun (v17 : AV) =>
 @AM.bind AV AV (lenStr v1) fun v18 =>
 @AM.bind AV AV (bn Tryz.prog .geq 3 true v18 (.int .i64 (.ofNat 1))) fun v19 =>
 @AM.bind AV AV (guardA v19 true (.ret v1)) fun v20 =>
 @AM.bind AV AV (guardA v19 true (lenStr v20)) fun v21 =>
 @AM.bind AV AV (guardA v19 true (bn Tryz.prog .leq 3 true v21 (.int .i64 (.ofNat 100)))) fun v22 =>
 @AM.bind AV AV (pickA v19 v22 (.bool false)) fun v23 =>
 @AM.bind AV AV (guardA v23 true (.ret v1)) fun v24 =>
 @AM.bind AV AV (guardA v23 true (C 335 [v24, (.str [45,46])])) fun v25 =>
 @AM.bind AV AV (pickA v23 v25 (.bool false)) fun v26 =>
 @AM.ret AV v26) (g0 r15.2 0)) (.bad))
/- (*usher/field.Fields).Has -/
noncomputable def F303 (C : CallOp) (Lp : LoopOp) (a0 a1 : AV) : AM AV :=
 @AM.bind AV AV (C 225 [a0, a1]) fun v0 =>
 @AM.bind AV AV (lenSl v0) fun v1 =>
 @AM.bind AV AV (bn Tryz.prog .gtr 3 true v1 (.int .i64 (.ofNat 0))) fun v2 =>
 @AM.ret AV v2
/- usher/framing.tokens -/
noncomputable def F305 (C : CallOp) (Lp : LoopOp) (a0 a1 : AV) : AM AV :=
 @AM.bind AV AV (C 225 [a0, a1]) fun v0 =>
 @AM.bind AV AV (C 336 [v0]) fun v1 =>
 @AM.bind AV AV (extA v1 0) fun v2 =>
 @AM.bind AV AV (extA v1 1) fun v3 =>
 @AM.bind AV AV (C 301 [v3, (.int .i64 (.ofNat 400))]) fun v4 =>
 @AM.ret AV v2
/- usher/framing.length -/
noncomputable def F306 (C : CallOp) (Lp : LoopOp) (a0 : AV) : AM AV :=
 @AM.bind AV AV (lenSl a0) fun v0 =>
 @AM.bind AV AV (bn Tryz.prog .gtr 3 true v0 (.int .i64 (.ofNat 0))) fun v1 =>
 @AM.bind AV AV (C 301 [v1, (.int .i64 (.ofNat 400))]) fun v2 =>
 @AM.bind AV AV (lenSl a0) fun v3 =>
 @AM.bind Ans AV (Lp (fun l4 =>
 (fun (v5 v6 : AV) =>
 @AM.bind AV Ans (bn Tryz.prog .lss 3 false v6 v3) fun v7 =>
 @bcond Ans v7 (
 @AM.bind AV Ans (iaddrS 1 a0 v6) fun v8 =>
 @AM.bind AV Ans (ld v8) fun v9 =>
 @AM.bind AV Ans (C 334 [v9]) fun v10 =>
 @AM.bind AV Ans (extA v10 0) fun v11 =>
 @AM.bind AV Ans (extA v10 1) fun v12 =>
 @AM.bind AV Ans (guardA v12 true (.ret v6)) fun v13 =>
 @AM.bind AV Ans (guardA v12 true (bn Tryz.prog .eql 3 true v13 (.int .i64 (.ofNat 0)))) fun v14 =>
 @AM.bind AV Ans (guardA v12 true (.ret v14)) fun v15 =>
 @AM.bind AV Ans (guardA v15 false (.ret v11)) fun v16 =>
 @AM.bind AV Ans (guardA v15 false (.ret v5)) fun v17 =>
 @AM.bind AV Ans (guardA v15 false (bn Tryz.prog .eql 3 false v16 v17)) fun v18 =>
 @AM.bind AV Ans (guardA v12 true (pickA v15 (.bool true) v18)) fun v19 =>
 @AM.bind AV Ans (pickA v12 v19 (.bool false)) fun v20 =>
 @AM.bind AV Ans (C 301 [v20, (.int .i64 (.ofNat 400))]) fun v21 =>
 @AM.bind AV Ans (bn Tryz.prog .add 3 true v6 (.int .i64 (.ofNat 1))) fun v22 =>
 @AM.ret Ans (0, [v11, v22])) (
 @AM.ret Ans (2, [v5, v6]))) (g0 l4 0) (g0 l4 1)) [(.int .i64 (.ofNat 0)), (.int .i64 (.ofNat 0))]) fun r23 =>
 cond (Nat.beq r23.1 2) (
 (fun (v24 v25 : AV) =>
 @AM.bind AV AV (bn Tryz.prog .leq 3 true v24 (.int .i64 (.ofNat 2048))) fun v26 =>
 @AM.bind AV AV (C 301 [v26, (.int .i64 (.ofNat 413))]) fun v27 =>
 @AM.ret AV v24) (g0 r23.2 0) (g0 r23.2 1)) (.bad)
/- usher/field.Parse -/
noncomputable def F307 (C : CallOp) (Lp : LoopOp) (a0 : AV) : AM AV :=
 @AM.bind AV AV (nw [(.str []), (.str [])]) fun v0 =>
 @AM.bind AV AV (lenStr a0) fun v1 =>
 @AM.bind AV AV (bn Tryz.prog .gtr 3 true v1 (.int .i64 (.ofNat 256))) fun v2 =>
 @bcond AV v2 (
 @AM.bind AV AV (bld [(.str []), (.str [])] []) fun v3 =>
 @AM.bind AV AV (unit2 (stN 2 v0 v3)) fun _ =>
 @AM.bind (List AV) AV (@AM.bind AV (List AV) (ldN 2 v0) fun w4 => @AM.ret (List AV) (w4 :: ((.int .i64 (.ofNat 9)) :: []))) fun w5 => @AM.ret AV (.tuple w5)) (
 @AM.bind AV AV (C 333 [a0, (.str [58])]) fun v6 =>
 @AM.bind AV AV (extA v6 0) fun v7 =>
 @AM.bind AV AV (extA v6 1) fun v8 =>
 @AM.bind AV AV (extA v6 2) fun v9 =>
 @AM.bind AV AV (C 121 [v8]) fun v10 =>
 @AM.bind AV AV (bld [(.str []), (.str [])] [(0, 1, v7), (1, 1, v10)]) fun v11 =>
 @AM.bind AV AV (nw [(.str []), (.str [])]) fun v12 =>
 @AM.bind AV AV (unit2 (stN 2 v12 v11)) fun _ =>
 @AM.bind AV AV (un .not v9) fun v13 =>
 @AM.bind AV AV (guardA v13 false (ldN 2 v12)) fun v14 =>
 @AM.bind AV AV (guardA v13 false (C 232 [v14])) fun v15 =>
 @AM.bind AV AV (guardA v13 false (un .not v15)) fun v16 =>
 @AM.bind AV AV (pickA v13 (.bool true) v16) fun v17 =>
 @bcond AV v17 (
 @AM.bind AV AV (bld [(.str []), (.str [])] []) fun v18 =>
 @AM.bind AV AV (unit2 (stN 2 v0 v18)) fun _ =>
 @AM.bind (List AV) AV (@AM.bind AV (List AV) (ldN 2 v0) fun w19 => @AM.ret (List AV) (w19 :: ((.int .i64 (.ofNat 8)) :: []))) fun w20 => @AM.ret AV (.tuple w20)) (
 @AM.bind AV AV (ldN 2 v12) fun v21 =>
 @AM.bind AV AV (unit2 (stN 2 v0 v21)) fun _ =>
 @AM.bind (List AV) AV (@AM.bind AV (List AV) (ldN 2 v0) fun w22 => @AM.ret (List AV) (w22 :: ((.int .i64 (.ofNat 0)) :: []))) fun w23 => @AM.ret AV (.tuple w23)))
/- internal/stringslite.CutPrefix -/
noncomputable def F330 (C : CallOp) (Lp : LoopOp) (a0 a1 : AV) : AM AV :=
 @AM.bind AV AV (C 226 [a0, a1]) fun v0 =>
 @AM.bind AV AV (un .not v0) fun v1 =>
 @bcond AV v1 (
 @AM.ret AV (.tuple (a0 :: ((.bool false) :: [])))) (
 @AM.bind AV AV (lenStr a1) fun v2 =>
 @AM.bind AV AV (sliceA Tryz.prog 9 a0 (some v2) none none) fun v3 =>
 @AM.ret AV (.tuple (v3 :: ((.bool true) :: []))))
/- usher/target.origin -/
noncomputable def F332 (C : CallOp) (Lp : LoopOp) (a0 a1 : AV) : AM AV :=
 @AM.bind AV AV (boxA a0) fun v0 =>
 @AM.bind AV AV (nw [(.int .i64 (.ofNat 0)), (.str []), (.str []), (.str [])]) fun v1 =>
 @AM.bind AV AV (C 335 [a1, (.str [45,46,95,126,33,36,38,39,40,41,42,43,44,59,61,58,64,47,37,63])]) fun v2 =>
 @AM.bind AV AV (un .not v2) fun v3 =>
 @bcond AV v3 (
 @AM.bind AV AV (bld [(.int .i64 (.ofNat 0)), (.str []), (.str []), (.str [])] []) fun v4 =>
 @AM.bind AV AV (unit2 (stN 4 v1 v4)) fun _ =>
 @AM.bind (List AV) AV (@AM.bind AV (List AV) (ldN 4 v1) fun w5 => @AM.ret (List AV) (w5 :: ((.int .i64 (.ofNat 8)) :: []))) fun w6 => @AM.ret AV (.tuple w6)) (
 @AM.bind AV AV (C 333 [a1, (.str [63])]) fun v7 =>
 @AM.bind AV AV (extA v7 0) fun v8 =>
 @AM.bind AV AV (extA v7 1) fun v9 =>
 @AM.bind AV AV (extA v7 2) fun v10 =>
 @AM.bind AV AV (C 348 [v8]) fun v11 =>
 @AM.bind AV AV (extA v11 0) fun v12 =>
 @AM.bind AV AV (extA v11 1) fun v13 =>
 @AM.bind AV AV (bn Tryz.prog .neq 76 true v13 (.int .i64 (.ofNat 0))) fun v14 =>
 @bcond AV v14 (
 @AM.bind AV AV (bld [(.int .i64 (.ofNat 0)), (.str []), (.str []), (.str [])] []) fun v15 =>
 @AM.bind AV AV (unit2 (stN 4 v1 v15)) fun _ =>
 @AM.bind (List AV) AV (@AM.bind AV (List AV) (ldN 4 v1) fun w16 => @AM.ret (List AV) (w16 :: (v13 :: []))) fun w17 => @AM.ret AV (.tuple w17)) (
 @AM.bind AV AV (C 118 [v12]) fun v18 =>
 @AM.bind AV AV (extA v18 0) fun v19 =>
 @AM.bind AV AV (extA v18 1) fun v20 =>
 @AM.bind AV AV (un .not v20) fun v21 =>
 @bcond AV v21 (
 @AM.bind AV AV (bld [(.int .i64 (.ofNat 0)), (.str []), (.str []), (.str [])] []) fun v22 =>
 @AM.bind AV AV (unit2 (stN 4 v1 v22)) fun _ =>
 @AM.bind (List AV) AV (@AM.bind AV (List AV) (ldN 4 v1) fun w23 => @AM.ret (List AV) (w23 :: ((.int .i64 (.ofNat 8)) :: []))) fun w24 => @AM.ret AV (.tuple w24)) (
 @AM.bind AV AV (faddr 2 v0) fun v25 =>
 @AM.bind AV AV (unit2 (st v25 v19)) fun _ =>
 @AM.bind AV AV (faddr 3 v0) fun v26 =>
 @AM.bind AV AV (unit2 (st v26 v9)) fun _ =>
 @AM.bind AV AV (ldN 4 v0) fun v27 =>
 @AM.bind AV AV (unit2 (stN 4 v1 v27)) fun _ =>
 @AM.bind (List AV) AV (@AM.bind AV (List AV) (ldN 4 v1) fun w28 => @AM.ret (List AV) (w28 :: ((.int .i64 (.ofNat 0)) :: []))) fun w29 => @AM.ret AV (.tuple w29))))
/- strings.Cut -/
noncomputable def F333 (C : CallOp) (Lp : LoopOp) (a0 a1 : AV) : AM AV :=
 @AM.bind AV AV (C 349 [a0, a1]) fun v0 =>
 @AM.bind AV AV (extA v0 0) fun v1 =>
 @AM.bind AV AV (extA v0 1) fun v2 =>
 @AM.bind AV AV (extA v0 2) fun v3 =>
 @AM.ret AV (.tuple (v1 :: (v2 :: (v3 :: []))))
/- usher/ascii.Num -/
noncomputable def F334 (C : CallOp) (Lp : LoopOp) (a0 : AV) : AM AV :=
 @AM.bind AV AV (C 350 [a0, (.str [48,49,50,51,52,53,54,55,56,57]), (.int .i64 (.ofNat 15))]) fun v0 =>
 @AM.bind AV AV (un .not v0) fun v1 =>
 @bcond AV v1 (
 @AM.ret AV (.tuple ((.int .i64 (.ofNat 0)) :: ((.bool false) :: [])))) (
 @AM.bind AV AV (C 351 [a0]) fun v2 =>
 @AM.bind AV AV (extA v2 0) fun v3 =>
 @AM.bind AV AV (extA v2 1) fun v4 =>
 @AM.ret AV (.tuple (v3 :: ((.bool true) :: []))))
/- usher/target.isOf -/
noncomputable def F335 (C : CallOp) (Lp : LoopOp) (a0 a1 : AV) : AM AV :=
 @AM.bind AV AV (lenStr a0) fun v0 =>
 @AM.bind Ans AV (Lp (fun l1 =>
 (fun (v2 v3 : AV) =>
 @AM.bind AV Ans (bn Tryz.prog .lss 3 false v3 v0) fun v4 =>
 @bcond Ans v4 (
 @AM.bind AV Ans (sIdx a0 v3) fun v5 =>
 @AM.bind AV Ans (C 352 [v5]) fun v6 =>
 @AM.bind AV Ans (un .not v6) fun v7 =>
 @AM.bind AV Ans (guardA v7 true (.ret a1)) fun v8 =>
 @AM.bind AV Ans (guardA v7 true (.ret a0)) fun v9 =>
 @AM.bind AV Ans (guardA v7 true (.ret v3)) fun v10 =>
 @AM.bind AV Ans (guardA v7 true (sIdx v9 v10)) fun v11 =>
 @AM.bind AV Ans (guardA v7 true (C 177 [v8, v11])) fun v12 =>
 @AM.bind AV Ans (guardA v7 true (bn Tryz.prog .lss 3 true v12 (.int .i64 (.ofNat 0)))) fun v13 =>
 @AM.bind AV Ans (pickA v7 v13 (.bool false)) fun v14 =>
 @bcond Ans v14 (
 @AM.ret Ans (1, [(.bool false), v3])) (
 @AM.bind AV Ans (bn Tryz.prog .add 3 true v3 (.int .i64 (.ofNat 1))) fun v15 =>
 @AM.ret Ans (0, [v2, v15]))) (
 @AM.ret Ans (2, [v2, v3]))) (g0 l1 0) (g0 l1 1)) [(.bool false), (.int .i64 (.ofNat 0))]) fun r16 =>
 cond (Nat.beq r16.1 2) (
 (fun (v17 v18 : AV) =>
 @AM.ret AV (.bool true)) (g0 r16.2 0) (g0 r16.2 1)) (cond (Nat.beq r16.1 1) (
 (fun (v19 v20 : AV) =>
 @AM.ret AV v19) (g0 r16.2 0) (g0 r16.2 1)) (.bad))
/- usher/list.Tokens -/
noncomputable def F336 (C : CallOp) (Lp : LoopOp) (a0 : AV) : AM AV :=
 @AM.bind AV AV (lenSl a0) fun v0 =>
 @AM.bind Ans AV (Lp (fun l1 =>
 (fun (v2 v3 v4 v5 : AV) =>
 @AM.bind AV Ans (bn Tryz.prog .lss 3 false v5 v0) fun v6 =>
 @bcond Ans v6 (
 @AM.bind AV Ans (iaddrS 1 a0 v5) fun v7 =>
 @AM.bind AV Ans (ld v7) fun v8 =>
 @AM.bind AV Ans (C 168 [v8, (.str [44])]) fun v9 =>
 @AM.bind AV Ans (lenSl v9) fun v10 =>
 @AM.bind Ans Ans (Lp (fun l11 =>
 (fun (v12 v13 v14 v15 : AV) =>
 @AM.bind AV Ans (bn Tryz.prog .lss 3 false v15 v10) fun v16 =>
 @bcond Ans v16 (
 @AM.bind AV Ans (iaddrS 1 v9 v15) fun v17 =>
 @AM.bind AV Ans (ld v17) fun v18 =>
 @AM.bind AV Ans (C 121 [v18]) fun v19 =>
 @AM.bind AV Ans (bn Tryz.prog .eql 9 true v19 (.str [])) fun v20 =>
 @AM.bind Ans Ans (@bcond Ans v20 (
 @AM.ret Ans (0, [v12, v13, v14])) (
 @AM.bind AV Ans (C 125 [v19]) fun v21 =>
 @bcond Ans v21 (
 @AM.bind AV Ans (C 255 [v19]) fun v22 =>
 @AM.bind AV Ans (bsl [(.str [])] [(0, 1, v22)] 1 1) fun v23 =>
 @AM.bind AV Ans (apnd 1 v12 v23) fun v24 =>
 @AM.ret Ans (0, [v24, v13, v14])) (
 @AM.ret Ans (1, [v12, .snil, (.bool false)])))) fun r25 =>
 cond (Nat.beq r25.1 0) (
 (fun (v26 v27 v28 : AV) =>
 @AM.bind AV Ans (bn Tryz.prog .add 3 true v15 (.int .i64 (.ofNat 1))) fun v29 =>
 @AM.ret Ans (0, [v26, v27, v28, v29])) (g0 r25.2 0) (g0 r25.2 1) (g0 r25.2 2)) (cond (Nat.beq r25.1 1) (
 (fun (v30 v31 v32 : AV) =>
 @AM.ret Ans (1, [v30, v31, v32, v15])) (g0 r25.2 0) (g0 r25.2 1) (g0 r25.2 2)) (.bad))) (
 @AM.ret Ans (4, [v12, v13, v14, v15]))) (g0 l11 0) (g0 l11 1) (g0 l11 2) (g0 l11 3)) [v2, v3, v4, (.int .i64 (.ofNat 0))]) fun r33 =>
 cond (Nat.beq r33.1 4) (
 (fun (v34 v35 v36 v37 : AV) =>
 @AM.bind AV Ans (bn Tryz.prog .add 3 true v5 (.int .i64 (.ofNat 1))) fun v38 =>
 @AM.ret Ans (0, [v34, v35, v36, v38])) (g0 r33.2 0) (g0 r33.2 1) (g0 r33.2 2) (g0 r33.2 3)) (cond (Nat.beq r33.1 1) (
 (fun (v39 v40 v41 v42 : AV) =>
 @AM.ret Ans (1, [v39, v40, v41, v5])) (g0 r33.2 0) (g0 r33.2 1) (g0 r33.2 2) (g0 r33.2 3)) (.bad))) (
 @AM.ret Ans (2, [v2, v3, v4, v5]))) (g0 l1 0) (g0 l1 1) (g0 l1 2) (g0 l1 3)) [.snil, .snil, (.bool false), (.int .i64 (.ofNat 0))]) fun r43 =>
 cond (Nat.beq r43.1 2) (
 (fun (v44 v45 v46 v47 : AV) =>
 @AM.ret AV (.tuple (v44 :: ((.bool true) :: [])))) (g0 r43.2 0) (g0 r43.2 1) (g0 r43.2 2) (g0 r43.2 3)) (cond (Nat.beq r43.1 1) (
 (fun (v48 v49 v50 v51 : AV) =>
 @AM.ret AV (.tuple (v49 :: (v50 :: [])))) (g0 r43.2 0) (g0 r43.2 1) (g0 r43.2 2) (g0 r43.2 3)) (.bad))
/- usher/target.Decode -/
noncomputable def F348 (C : CallOp) (Lp : LoopOp) (a0 : AV) : AM AV :=
 @AM.bind Ans AV (Lp (fun l0 =>
 (fun (v1 v2 v3 v4 : AV) =>
 @AM.bind AV Ans (lenStr a0) fun v5 =>
 @AM.bind AV Ans (bn Tryz.prog .lss 3 false v3 v5) fun v6 =>
 @bcond Ans v6 (
 @AM.bind AV Ans (sIdx a0 v3) fun v7 =>
 @AM.bind AV Ans (bn Tryz.prog .eql 5 true v7 (.int .u8 (.ofNat 37))) fun v8 =>
 @AM.bind Ans Ans (@bcond Ans v8 (
 @AM.bind AV Ans (bn Tryz.prog .add 3 true v3 (.int .i64 (.ofNat 2))) fun v9 =>
 @AM.bind AV Ans (lenStr a0) fun v10 =>
 @AM.bind AV Ans (bn Tryz.prog .geq 3 false v9 v10) fun v11 =>
 @bcond Ans v11 (
 @AM.ret Ans (1, [(.str []), (.int .i64 (.ofNat 8)), v7, v3])) (
 @AM.bind AV Ans (bn Tryz.prog .add 3 true v3 (.int .i64 (.ofNat 1))) fun v12 =>
 @AM.bind AV Ans (bn Tryz.prog .add 3 true v3 (.int .i64 (.ofNat 3))) fun v13 =>
 @AM.bind AV Ans (sliceA Tryz.prog 9 a0 (some v12) (some v13) none) fun v14 =>
 @AM.bind AV Ans (C 338 [v14]) fun v15 =>
 @AM.bind AV Ans (extA v15 0) fun v16 =>
 @AM.bind AV Ans (extA v15 1) fun v17 =>
 @AM.bind AV Ans (un .not v17) fun v18 =>
 @AM.bind AV Ans (guardA v18 false (.ret v16)) fun v19 =>
 @AM.bind AV Ans (guardA v18 false (bn Tryz.prog .eql 3 true v19 (.int .i64 (.ofNat 0)))) fun v20 =>
 @AM.bind AV Ans (pickA v18 (.bool true) v20) fun v21 =>
 @bcond Ans v21 (
 @AM.ret Ans (1, [(.str []), (.int .i64 (.ofNat 8)), v7, v3])) (
 @AM.bind AV Ans (convA Tryz.prog 3 5 v16) fun v22 =>
 @AM.bind AV Ans (bn Tryz.prog .add 3 true v3 (.int .i64 (.ofNat 2))) fun v23 =>
 @AM.ret Ans (0, [v1, v2, v22, v23])))) (
 @AM.ret Ans (0, [v1, v2, v7, v3]))) fun r24 =>
 cond (Nat.beq r24.1 1) (
 (fun (v25 v26 v27 v28 : AV) =>
 @AM.ret Ans (1, [v25, v26, v28, v4])) (g0 r24.2 0) (g0 r24.2 1) (g0 r24.2 2) (g0 r24.2 3)) (cond (Nat.beq r24.1 0) (
 (fun (v29 v30 v31 v32 : AV) =>
 @AM.bind AV Ans (bsl [(.int .u8 (.ofNat 0))] [(0, 1, v31)] 1 1) fun v33 =>
 @AM.bind AV Ans (apnd 1 v4 v33) fun v34 =>
 @AM.bind AV Ans (bn Tryz.prog .add 3 true v32 (.int .i64 (.ofNat 1))) fun v35 =>
 @AM.ret Ans (0, [v29, v30, v35, v34])) (g0 r24.2 0) (g0 r24.2 1) (g0 r24.2 2) (g0 r24.2 3)) (.bad))) (
 @AM.ret Ans (2, [v1, v2, v3, v4]))) (g0 l0 0) (g0 l0 1) (g0 l0 2) (g0 l0 3)) [(.str []), (.int .i64 (.ofNat 0)), (.int .i64 (.ofNat 0)), .snil]) fun r36 =>
 cond (Nat.beq r36.1 2) (
 (fun (v37 v38 v39 v40 : AV) =>
 @AM.bind AV AV (convA Tryz.prog 22 9 v40) fun v41 =>
 @AM.ret AV (.tuple (v41 :: ((.int .i64 (.ofNat 0)) :: [])))) (g0 r36.2 0) (g0 r36.2 1) (g0 r36.2 2) (g0 r36.2 3)) (cond (Nat.beq r36.1 1) (
 (fun (v42 v43 v44 v45 : AV) =>
 @AM.ret AV (.tuple (v42 :: (v43 :: [])))) (g0 r36.2 0) (g0 r36.2 1) (g0 r36.2 2) (g0 r36.2 3)) (.bad))
/- internal/stringslite.Cut -/
noncomputable def F349 (C : CallOp) (Lp : LoopOp) (a0 a1 : AV) : AM AV :=
 @AM.bind AV AV (C 264 [a0, a1]) fun v0 =>
 @AM.bind AV AV (bn Tryz.prog .geq 3 true v0 (.int .i64 (.ofNat 0))) fun v1 =>
 @bcond AV v1 (
 @bindP AV AV false (sliceA Tryz.prog 9 a0 none (some v0) none) fun v2 =>
 @bindP AV AV false (lenStr a1) fun v3 =>
 @bindP AV AV false (bn Tryz.prog .add 3 false v0 v3) fun v4 =>
 @bindP AV AV false (sliceA Tryz.prog 9 a0 (some v4) none none) fun v5 =>
 @AM.ret AV (.tuple (v2 :: (v5 :: ((.bool true) :: []))))) (
 @AM.ret AV (.tuple (a0 :: ((.str []) :: ((.bool false) :: [])))))
/- usher/ascii.digits -/
noncomputable def F350 (C : CallOp) (Lp : LoopOp) (a0 a1 a2 : AV) : AM AV :=
 @AM.bind AV AV (bn Tryz.prog .neq 9 true a0 (.str [])) fun v0 =>
 @AM.bind AV AV (guardA v0 true (.ret a0)) fun v1 =>
 @AM.bind AV AV (guardA v0 true (lenStr v1)) fun v2 =>
 @AM.bind AV AV (guardA v0 true (.ret a2)) fun v3 =>
 @AM.bind AV AV (guardA v0 true (bn Tryz.prog .leq 3 false v2 v3)) fun v4 =>
 @AM.bind AV AV (pickA v0 v4 (.bool false)) fun v5 =>
 @AM.bind AV AV (guardA v5 true (.ret a0)) fun v6 =>
 @AM.bind AV AV (guardA v5 true (.ret a1)) fun v7 =>
 @AM.bind AV AV (guardA v5 true (C 172 [v6, v7])) fun v8 =>
 @AM.bind AV AV (guardA v5 true (bn Tryz.prog .eql 9 true v8 (.str []))) fun v9 =>
 @AM.bind AV AV (pickA v5 v9 (.bool false)) fun v10 =>
 @AM.ret AV v10
/- strconv.Atoi -/
noncomputable def F351 (C : CallOp) (Lp : LoopOp) (a0 : AV) : AM AV :=
 @AM.bind AV AV (C 362 [a0]) fun v0 =>
 @AM.bind AV AV (extA v0 0) fun v1 =>
 @AM.bind AV AV (extA v0 1) fun v2 =>
 @AM.bind AV AV (bn Tryz.prog .neq 248 true v2 .nilIface) fun v3 =>
 @bcond AV v3 (
 @AM.bind AV AV (C 363 [(.str [65,116,111,105]), a0, (.int .i64 (.ofNat 0)), (.int .i64 (.ofNat 0)), v2]) fun v4 =>
 @AM.ret AV (.tuple (v1 :: (v4 :: [])))) (
 @AM.ret AV (.tuple (v1 :: (.nilIface :: []))))
/- usher/target.isLetter -/
noncomputable def F352 (C : CallOp) (Lp : LoopOp) (a0 : AV) : AM AV :=
 @AM.bind AV AV (bn Tryz.prog .geq 5 true a0 (.int .u8 (.ofNat 97))) fun v0 =>
 @AM.bind AV AV (guardA v0 true (.ret a0)) fun v1 =>
 @AM.bind AV AV (guardA v0 true (bn Tryz.prog .leq 5 true v1 (.int .u8 (.ofNat 122)))) fun v2 =>
 @AM.bind AV AV (pickA v0 v2 (.bool false)) fun v3 =>
 @AM.bind AV AV (guardA v3 false (.ret a0)) fun v4 =>
 @AM.bind AV AV (guardA v3 false (bn Tryz.prog .geq 5 true v4 (.int .u8 (.ofNat 65)))) fun v5 =>
 @AM.bind AV AV (guardA v3 false (.ret v5)) fun v6 =>
 @AM.bind AV AV (guardA v6 true (.ret a0)) fun v7 =>
 @AM.bind AV AV (guardA v6 true (bn Tryz.prog .leq 5 true v7 (.int .u8 (.ofNat 90)))) fun v8 =>
 @AM.bind AV AV (guardA v3 false (pickA v6 v8 (.bool false))) fun v9 =>
 @AM.bind AV AV (pickA v3 (.bool true) v9) fun v10 =>
 @AM.bind AV AV (guardA v10 false (.ret a0)) fun v11 =>
 @AM.bind AV AV (guardA v10 false (bn Tryz.prog .geq 5 true v11 (.int .u8 (.ofNat 48)))) fun v12 =>
 @AM.bind AV AV (guardA v10 false (.ret v12)) fun v13 =>
 @AM.bind AV AV (guardA v13 true (.ret a0)) fun v14 =>
 @AM.bind AV AV (guardA v13 true (bn Tryz.prog .leq 5 true v14 (.int .u8 (.ofNat 57)))) fun v15 =>
 @AM.bind AV AV (guardA v10 false (pickA v13 v15 (.bool false))) fun v16 =>
 @AM.bind AV AV (pickA v10 (.bool true) v16) fun v17 =>
 @AM.ret AV v17
/- internal/strconv.Atoi -/
noncomputable def F362 (C : CallOp) (Lp : LoopOp) (a0 : AV) : AM AV :=
 @AM.bind AV AV (lenStr a0) fun v0 =>
 @AM.bind AV AV (guardA (.bool false) true (.ret v0)) fun v1 =>
 @AM.bind AV AV (guardA (.bool false) true (bn Tryz.prog .lss 3 true (.int .i64 (.ofNat 0)) v1)) fun v2 =>
 @AM.bind AV AV (guardA (.bool false) true (.ret v2)) fun v3 =>
 @AM.bind AV AV (guardA v3 true (.ret v0)) fun v4 =>
 @AM.bind AV AV (guardA v3 true (bn Tryz.prog .lss 3 true v4 (.int .i64 (.ofNat 10)))) fun v5 =>
 @AM.bind AV AV (guardA (.bool false) true (pickA v3 v5 (.bool false))) fun v6 =>
 @AM.bind AV AV (pickA (.bool false) v6 (.bool false)) fun v7 =>
 @AM.bind AV AV (guardA v7 false (.ret (.bool true))) fun v8 =>
 @AM.bind AV AV (guardA v8 true (.ret v0)) fun v9 =>
 @AM.bind AV AV (guardA v8 true (bn Tryz.prog .lss 3 true (.int .i64 (.ofNat 0)) v9)) fun v10 =>
 @AM.bind AV AV (guardA v8 true (.ret v10)) fun v11 =>
 @AM.bind AV AV (guardA v11 true (.ret v0)) fun v12 =>
 @AM.bind AV AV (guardA v11 true (bn Tryz.prog .lss 3 true v12 (.int .i64 (.ofNat 19)))) fun v13 =>
 @AM.bind AV AV (guardA v8 true (pickA v11 v13 (.bool false))) fun v14 =>
 @AM.bind AV AV (guardA v7 false (pickA v8 v14 (.bool false))) fun v15 =>
 @AM.bind AV AV (pickA v7 (.bool true) v15) fun v16 =>
 @bcond AV v16 (
 @AM.bind AV AV (sIdx a0 (.int .i64 (.ofNat 0))) fun v17 =>
 @AM.bind AV AV (bn Tryz.prog .eql 5 true v17 (.int .u8 (.ofNat 45))) fun v18 =>
 @AM.bind AV AV (guardA v18 false (.ret a0)) fun v19 =>
 @AM.bind AV AV (guardA v18 false (sIdx v19 (.int .i64 (.ofNat 0)))) fun v20 =>
 @AM.bind AV AV (guardA v18 false (bn Tryz.prog .eql 5 true v20 (.int .u8 (.ofNat 43)))) fun v21 =>
 @AM.bind AV AV (pickA v18 (.bool true) v21) fun v22 =>
 @AM.bind Ans AV (@bcond Ans v22 (
 @AM.bind AV Ans (sliceA Tryz.prog 9 a0 (some (.int .i64 (.ofNat 1))) none none) fun v23 =>
 @AM.bind AV Ans (lenStr v23) fun v24 =>
 @AM.bind AV Ans (bn Tryz.prog .lss 3 true v24 (.int .i64 (.ofNat 1))) fun v25 =>
 @bcond Ans v25 (
 @AM.ret Ans (1, [v23, (.int .i64 (.ofNat 0)), (.iface 378 (.int .i64 (.ofNat 2)))])) (
 @AM.ret Ans (0, [v23, (.int .i64 (.ofNat 0)), .nilIface]))) (
 @AM.ret Ans (0, [a0, (.int .i64 (.ofNat 0)), .nilIface]))) fun r26 =>
 cond (Nat.beq r26.1 1) (
 (fun (v27 v28 v29 : AV) =>
 @AM.ret AV (.tuple (v28 :: (v29 :: [])))) (g0 r26.2 0) (g0 r26.2 1) (g0 r26.2 2)) (cond (Nat.beq r26.1 0) (
 (fun (v30 v31 v32 : AV) =>
 @AM.bind AV AV (convA Tryz.prog 9 22 v30) fun v33 =>
 @AM.bind AV AV (lenSl v33) fun v34 =>
 @AM.bind Ans AV (Lp (fun l35 =>
 (fun (v36 v37 v38 v39 : AV) =>
 @AM.bind AV Ans (bn Tryz.prog .lss 3 false v39 v34) fun v40 =>
 @bcond Ans v40 (
 @AM.bind AV Ans (iaddrS 1 v33 v39) fun v41 =>
 @AM.bind AV Ans (ld v41) fun v42 =>
 @AM.bind AV Ans (bn Tryz.prog .sub 5 true v42 (.int .u8 (.ofNat 48))) fun v43 =>
 @AM.bind AV Ans (bn Tryz.prog .gtr 5 true v43 (.int .u8 (.ofNat 9))) fun v44 =>
 @bcond Ans v44 (
 @AM.ret Ans (1, [(.int .i64 (.ofNat 0)), (.iface 378 (.int .i64 (.ofNat 2))), v38, v39])) (
 @AM.bind AV Ans (bn Tryz.prog .mul 3 true v38 (.int .i64 (.ofNat 10))) fun v45 =>
 @AM.bind AV Ans (convA Tryz.prog 5 3 v43) fun v46 =>
 @AM.bind AV Ans (bn Tryz.prog .add 3 false v45 v46) fun v47 =>
 @AM.bind AV Ans (bn Tryz.prog .add 3 true v39 (.int .i64 (.ofNat 1))) fun v48 =>
 @AM.ret Ans (0, [v36, v37, v47, v48]))) (
 @AM.ret Ans (2, [v36, v37, v38, v39]))) (g0 l35 0) (g0 l35 1) (g0 l35 2) (g0 l35 3)) [v31, v32, (.int .i64 (.ofNat 0)), (.int .i64 (.ofNat 0))]) fun r49 =>
 cond (Nat.beq r49.1 2) (
 (fun (v50 v51 v52 v53 : AV) =>
 @AM.bind AV AV (sIdx a0 (.int .i64 (.ofNat 0))) fun v54 =>
 @AM.bind AV AV (bn Tryz.prog .eql 5 true v54 (.int .u8 (.ofNat 45))) fun v55 =>
 @AM.bind Ans AV (@bcond Ans v55 (
 @AM.bind AV Ans (un .neg v52) fun v56 =>
 @AM.ret Ans (0, [v56])) (
 @AM.ret Ans (0, [v52]))) fun r57 =>
 cond (Nat.beq r57.1 0) (
 (fun (v58 : AV) =>
 @AM.ret AV (.tuple (v58 :: (.nilIface :: [])))) (g0 r57.2 0)) (.bad)) (g0 r49.2 0) (g0 r49.2 1) (g0 r49.2 2) (g0 r49.2 3)) (cond (Nat.beq r49.1 1) (
 (fun (v59 v60 v61 v62 : AV) =>
 @AM.ret AV (.tuple (v59 :: (v60 :: [])))) (g0 r49.2 0) (g0 r49.2 1) (g0 r49.2 2) (g0 r49.2 3)) (.bad))) (g0 r26.2 0) (g0 r26.2 1) (g0 r26.2 2)) (.bad))) (
 @AM.bind AV AV (C 364 [a0, (.int .i64 (.ofNat 10)), (.int .i64 (.ofNat 0))]) fun v63 =>
 @AM.bind AV AV (extA v63 0) fun v64 =>
 @AM.bind AV AV (extA v63 1) fun v65 =>
 @AM.ret AV (.tuple (v64 :: (v65 :: []))))
end Go.Am
