/-
  Parts of the proof: Db1 Db2 Db3 Db4 A1 A2 A3 P1 P2 A4 A5 A6 P3. Conditions: none.
-/
import Derived.Test.YteodgliliglipaaGreatDoorFCc2
import Derived.Test.YteodgliliglipaaGreatDoorFCc5
import Derived.Test.YteodgliliglipaaGreatDoorFCc8
import Derived.Test.YteodgliliglipaaGreatDoorChecked
namespace Go.Proofs.YteodgliliglipaaGreatDoor.V.I
open Go
noncomputable section
set_option maxRecDepth 100000
noncomputable def xi11 := xiM 11 Go.Proofs.Tryz.f11 268435463
theorem xi11_ok : TabOK Go.Proofs.Tryz.prog [xi11] := tabOK1 Go.Proofs.Tryz.func11 (by kernel_rfl) (by kernel_rfl) rfl rfl
noncomputable def cf11 : FnC := (.mk 268435463 29 q1 (.seq q9 (.seq (.seq (.rg (.op .no qb .loc (.op .no qd .loc (.op .no (.bin .lss 3 qc qe) .loc (.op .no qf .loc (.op qg qh .loc (.op qj qd .loc (.op ql (.bin .lss 3 qc qe) .loc (.op .no qp .loc (.op .no qf .loc (.op qg qb .loc (.op qj qd .loc (.op ql qq .loc (.op .no qp .loc (.op .no qf .loc (.op qg qh .loc (.op qj qd .loc (.op ql qq .loc (.op .no qp .loc (.op .no qf .loc (.op qg qb .loc (.op qj qd .loc (.op ql qh .loc (.op qr qd .loc (.op qt qu .loc (.op qw qq .loc (.op .no (.pick qx qo qc) qz .fin))))))))))))))))))))))))))) q14) q16)))
theorem cf11_ok : compF Go.Proofs.Tryz.prog xi11 = some cf11 := by kernel_rfl
noncomputable def xi14 := xiM 14 Go.Proofs.Tryz.f14 131187
theorem xi14_ok : TabOK Go.Proofs.Tryz.prog [xi14] := tabOK1 Go.Proofs.Tryz.func14 (by kernel_rfl) (by kernel_rfl) rfl rfl
noncomputable def cf14 : FnC := (.mk 131187 34 (.one (.cell 7 true q0)) (.seq (.rg (.op .no q17 q7 .fin)) (.seq (.rg (.op .no q18 .loc (.op .no q19 .loc (.op .no q1b .loc (.op .no (.bld [q1c] [(.int .i64 (.ofNat 0)), (.int .i64 (.ofNat 0)), (.con (.slice Option.none 0 0))]) .loc (.op .no (.bld [(.mk 0 3 qc)] [(.int .i64 (.ofNat 0)), (.int .i64 (.ofNat 0)), (.con (.slice Option.none 0 0)), (.int .u8 (.ofNat 0)), (.int .i64 (.ofNat 0)), (.int .i64 (.ofNat 0)), (.con (.slice Option.none 0 0))]) .loc (.op .no q17 qz (.op .no (.st 7 q10 qc) .non .fin)))))))) (.seq (.seq (.rg q1f) (.block 0 (.loop (.seq (.seq (.rg (.op .no q1h .loc (.op .no q18 .loc (.op .no q1j .loc (.op .no q19 .loc (.op .no (.bin .mul 3 qi qc) .loc (.op .no (.bin .lss 3 qs qc) q1l .fin))))))) q1o) (.seq (.block 1 (.rgd (.op .no q1q .loc (.op .no q1s .loc (.op .no q1u .loc (.op .no q1v .loc (.op .no (.hard (.call (.lit (.clo 38 [])) [qi, qc])) .loc (.op .no (.soft (.fadr 6 q10)) .loc (.op .no (.softw qd 1 (.load 29 (.tmp 20)) (rfR 131187 [20, 26, 25, 24, 23, 22] [20])) .loc (.op .no q1v .loc (.op .no (.bsl 3 1 1 [qc] 0) .loc (.op .no (.soft (.bld [(.mk 0 3 qs), (.mk 3 1 qc)] [(.int .i64 (.ofNat 0)), (.int .i64 (.ofNat 0)), (.int .u8 (.ofNat 0)), (.con (.slice Option.none 0 0))])) .loc (.op .no (.bsl 92 1 4 [qc] 2) .loc (.op .no (.hard (.app 29 92 4 48 qs qc)) .loc (.op .no (.soft (.fadr 6 q10)) .loc q1w))))))))))))) 4)) q1z))))) (.seq (.rg (.op .no (.ld 7 true q10) .loc (.op .no (.st 7 q0 qc) .non .fin))) .ret)))))
theorem cf14_ok : compF Go.Proofs.Tryz.prog xi14 = some cf14 := by kernel_rfl
noncomputable def xi15 := xiM 15 Go.Proofs.Tryz.f15 17593194840959
theorem xi15_ok : TabOK Go.Proofs.Tryz.prog [xi15] := tabOK1 Go.Proofs.Tryz.func15 (by kernel_rfl) (by kernel_rfl) rfl rfl
noncomputable def cf15 : FnC := (.mk 17593194840959 45 q1 (.seq (.rg (.op .no q20 q4 q8)) (.seq (.rg (.op .no q21 .loc (.op .no (.call (.lit (.clo 39 [])) [qc]) .loc (.op .no qf .loc (.op .no q22 .loc (.op .no q23 .loc (.op .no q24 qz (.op .no (.st 9 q10 qi) .non q1y)))))))) (.seq (.seq (.rg (.op .no q1h .loc q27)) (.cond q28 (.seq (.rg (.op .no q1h .loc q29)) .ret) .skip)) (.seq (.seq (.rg (.op .no q2a .loc (.op .no (.call (.lit (.clo 40 [])) [qc]) .loc q2b))) (.seq (.rg (.op .no q2c .loc (.op .no q25 q2d .fin))) (.cond q2e (.seq (.rg (.op .no q2c .loc q29)) .ret) .skip))) (.seq (.rg (.op .no (.gen (.makeMap 105 Option.none) (rfC 17593194840959 [])) .loc (.op .no (.alloc 105 [(.con (.map Option.none))]) q2g (.op .no (.st 1 q2h qc) .non .fin)))) (.seq (.seq (.rg (.op .no qb .loc (.op .no q2i .loc (.op .no qd q2j q2n)))) (.block 0 (.loop (.seq q2r (.seq q2t (.seq (.block 1 (.seq (.rg (.op .no (.ias 3 q2k q2o) .loc (.op .no q2u .loc (.op .no q2v q2w q2y)))) (.rg (.op .no (.ld 1 false q2h) .loc (.op .no (.fadr 0 q2x) .loc (.op .no qd .loc (.op .no (.fadr 1 q2x) .loc (.op .no qd .loc (.op .no q2z .loc (.op .no (.fadr 2 q2x) .loc (.op .no qd .loc (.op .no (.gen (.mapUpdate 105 (.tmp 32) (.tmp 37) (.tmp 39)) (rfC 17593194840959 [39, 38, 37, 36, 35, 34, 33, 32])) .non .fin)))))))))))) q31)))))) (.seq (.rg (.op .no q32 q33 (.op .no (.st 1 q34 q35) .non .fin))) (.seq (.rg (.op .no q2a .loc (.op .no (.gen (.makeFunc (Fn.func 42) (Array.mk []) (Array.mk [(.tmp 9), (.tmp 6)])) (rfC 17593194840959 [41])) .loc (.op .no (.call (.lit (.clo 41 [])) [qi, qc]) .loc .fin)))) (.seq (.seq (.rg (.op .no (.ld 1 false q34) q37 .fin)) (.cond q38 (.seq (.rg (.op .no (.mv (.lit (.int .i64 (.ofNat 13)))) q7 .fin)) .ret) .skip)) q16))))))))))
theorem cf15_ok : compF Go.Proofs.Tryz.prog xi15 = some cf15 := by kernel_rfl
noncomputable def xi17 := xiM 17 Go.Proofs.Tryz.f17 187072209578355583914665375657339483576952023996415
theorem xi17_ok : TabOK Go.Proofs.Tryz.prog [xi17] := tabOK1 Go.Proofs.Tryz.func17 (by kernel_rfl) (by kernel_rfl) rfl rfl
noncomputable def cf17 : FnC := (.mk 187072209578355583914665375657339483576952023996415 194 (.one (.tmp q2)) (.seq q3a (.seq (.rg (.op .no (.call (.lit (.clo 14 [])) [q3b, qe]) .loc (.op .no q17 q4 (.op .no (.st 7 qa qc) .non .fin)))) (.seq (.rg (.op .no (.bld [(.mk 0 1 q3c), (.mk 1 1 qe)] [(.int .u8 (.ofNat 0)), (.int .i64 (.ofNat 0))]) .loc (.op .no q3d q7 q3e))) (.seq (.rg (.op .no q21 .loc (.op .no q3f .loc (.op .no q3h .loc (.op .no q3i .loc (.op .no qf .loc (.op .no q22 .loc (.op .no q23 .loc (.op .no q17 qz (.op .no (.st 7 q10 qi) .non q1y)))))))))) (.seq (.rg (.op .no q21 .loc (.op .no q3f .loc (.op .no (.bld [q1c, q3g] [(.int .u8 (.ofNat 0)), (.int .i64 (.ofNat 0)), (.int .u8 (.ofNat 0)), (.bool false)]) .loc (.op .no q3i .loc (.op .no qf .loc (.op .no q22 .loc (.op .no q23 .loc (.op .no q17 q1l (.op .no (.st 7 q1m qi) .non q3j)))))))))) (.seq (.rg (.op .no q21 .loc (.op .no q3f .loc (.op .no q3k .loc (.op .no q3i .loc (.op .no qf .loc (.op .no q22 .loc (.op .no q23 .loc (.op .no q17 q2w (.op .no (.st 7 q2x qi) .non q3l)))))))))) (.seq (.rg (.op .no q21 .loc (.op .no q3n .loc (.op .no q3h .loc (.op .no q3i .loc (.op .no qf .loc (.op .no q22 .loc (.op .no q23 .loc (.op .no q17 q26 (.op .no (.st 7 q28 qi) .non q3o)))))))))) (.seq (.rg (.op .no q21 .loc (.op .no (.bld [(.mk 0 1 q3c)] [(.int .u8 (.ofNat 0)), (.int .i64 (.ofNat 0))]) .loc (.op .no q3k .loc (.op .no q3i .loc (.op .no qf .loc (.op .no q22 .loc (.op .no q23 .loc (.op .no q17 .loc (.op .no (.st 7 qc qk) .non (.op .no q3p q2j .fin))))))))))) (.seq (.rg (.op .no q21 .loc (.op .no (.bld [(.mk 0 1 q3c), (.mk 1 1 q3q)] [(.int .u8 (.ofNat 0)), (.int .i64 (.ofNat 0))]) .loc (.op .no q3k .loc (.op .no q3i .loc (.op .no qf .loc (.op .no q22 .loc (.op .no q23 .loc (.op .no q17 .loc (.op .no (.st 7 qc qk) .non (.op .no q3p q2l .fin))))))))))) (.seq (.seq (.rg (.op .no q1h .loc (.op .no q25 .loc (.op .no qf .loc (.op qg q3r .loc (.op qj q25 .loc (.op .no q3s .loc (.op .no qf .loc (.op qg q3t .loc (.op qj q25 .loc (.op .no q3s .loc (.op .no qf .loc (.op qg q3u .loc (.op qj q25 .loc (.op .no q3s .loc (.op .no qf .loc (.op qg q3v .loc (.op qj (.bin .neq 32 qc q3w) .loc (.op .no q3s .loc (.op .no qf .loc (.op qg q3x .loc (.op qj (.bin .neq 32 qc q3w) .loc (.op .no q3s .loc (.op .no qf .loc (.op qg q1p .loc (.op qj q2i .loc (.op ql qd .loc (.op qr q3y .loc (.op qt (.bin .neq 3 qc qe) .loc (.op .no q3z .loc (.op .no qf .loc (.op qg q1p .loc (.op qj q2i .loc (.op ql qd .loc (.op qr (.ias 3 qc q5) .loc (.op qt q2i .loc (.op qw qd .loc (.op q40 (.bin .neq 60 qc q41) .loc (.op .no q43 .loc (.op .no qf .loc (.op qg q44 .loc (.op qj q2i .loc (.op ql qd .loc (.op qr q3y .loc (.op qt (.bin .neq 3 qc qe) .loc (.op .no q3z .loc (.op .no qf .loc (.op qg q44 .loc (.op qj q2i .loc (.op ql qd .loc (.op qr (.ias 3 qc q5) .loc (.op qt q2i .loc (.op qw qd .loc (.op q40 (.bin .neq 60 qc q3c) .loc (.op .no q43 q2q .fin))))))))))))))))))))))))))))))))))))))))))))))))))))))) (.cond q2s (.seq q3a .ret) .skip)) (.seq (.seq (.rgd (.op .no (.soft (.ld 7 true q10)) .loc (.op .no q45 .loc (.op .no (.bsl 3 2 1 [qe, q3w] 0) .loc (.op .no q46 .loc (.op .no q48 .loc (.op .no q49 .loc (.op qg (.soft (.ld 7 true q1m)) .loc (.op qj q45 .loc (.op ql (.bsl 3 2 1 [q3w, qe] 2) .loc (.op qr q46 .loc (.op qt q48 .loc (.op .no q4a .loc (.op .no q49 .loc (.op qg (.soft (.ld 7 true q2x)) .loc (.op qj (.soft (.bld [(.mk 0 1 qe), q3g] [(.int .i64 (.ofNat 0)), (.int .i64 (.ofNat 0)), (.int .u8 (.ofNat 0))])) .loc (.op ql (.bsl 3 2 1 [q4b, q3q] 4) .loc (.op qr q46 .loc (.op qt q48 .loc (.op .no q4a .loc (.op .no q49 .loc (.op qg (.soft q3f) .loc (.op qj (.hard (.call (.lit (.clo 49 [])) [qc])) .loc (.op ql (.soft (.fadr 3 q2x)) .loc (.op qr (.softw q2u 1 (.load 28 (.tmp 134)) (rfR 187072209578355583914665375657339483576952023996415 [134, 137, 136, 133, 132, 131, 130, 129, 128, 127, 126, 125, 124, 123, 122, 121, 120, 119, 118, 117, 116, 115, 114] [134, 133])) .loc (.op qt (.soft (.bin .neq 28 qc qk)) .loc (.op .no q4a .loc (.op .no q49 .loc (.op qg q4c .loc (.op qj (.soft q4d) .loc (.op ql (.bsl 3 2 1 [q5, qe] 6) .loc (.op qr q46 .loc (.op qt q48 .loc (.op .no q4a .loc (.op .no q49 .loc (.op qg q4c .loc (.op qj (.soft (.bld [(.mk 2 1 q3m)] [(.int .i64 (.ofNat 0)), (.int .i64 (.ofNat 0)), (.int .u8 (.ofNat 0))])) .loc (.op ql (.bsl 3 2 1 [q3q, q3b] 8) .loc (.op qr q46 .loc (.op qt q48 .loc (.op .no q4a .loc (.op .no q49 .loc (.op qg q4c .loc (.op qj (.soft (.bld [(.mk 1 1 q4e)] [(.int .i64 (.ofNat 0)), (.int .i64 (.ofNat 0)), (.int .u8 (.ofNat 0))])) .loc (.op ql (.bsl 3 1 1 [q4b] 10) .loc (.op qr q46 .loc (.op qt q48 .loc (.op .no q4a .loc (.op .no q49 .loc (.op qg q4c .loc (.op qj (.soft (.bld [(.mk 1 1 q4e), (.mk 2 1 q41)] [(.int .i64 (.ofNat 0)), (.int .i64 (.ofNat 0)), (.int .u8 (.ofNat 0))])) .loc (.op ql (.bsl 3 1 1 [q3w] 12) .loc (.op qr q46 .loc (.op qt q48 .loc (.op .no q4a q37 .fin)))))))))))))))))))))))))))))))))))))))))))))))))))))) 14) (.cond q38 (.seq q3a .ret) .skip)) (.seq (.rg (.op .no (.call (.lit (.clo 14 [])) [qe, qe]) .loc (.op .no (.call (.lit (.clo 50 [])) [qc]) .loc (.op .no qf .loc (.op .no q22 .loc (.op .no q23 .loc (.op .no q3p q2m q1y))))))) (.seq (.rg (.op .no q1h .loc (.op .no q4f .loc (.op .no qf .loc (.op q4g q4h .loc (.op q4i q3y .loc (.op q4j (.bin .eql 3 qc q3b) .loc (.op .no q4k .loc (.op .no qf .loc (.op q4g q4h .loc (.op q4i (.ias 2 qc q5) .loc (.op q4j q1t .loc (.op q4l q3n .loc (.op q4m (.bin .eql 43 qi qc) .loc (.op .no q4n .loc (.op .no qf .loc (.op q4g q4h .loc (.op q4i (.ias 2 qc qe) .loc (.op q4j q1t .loc (.op q4l (.bld [(.mk 0 1 q4o)] [(.int .u8 (.ofNat 0)), (.int .i64 (.ofNat 0))]) .loc (.op q4m (.bin .eql 43 qi qc) .loc (.op .no q4n .loc q4p)))))))))))))))))))))) .ret))))))))))))))
theorem cf17_ok : compF Go.Proofs.Tryz.prog xi17 = some cf17 := by kernel_rfl
noncomputable def xi29 := xiM 29 Go.Proofs.Tryz.f29 1361130119258639460758097274843451846655
theorem xi29_ok : TabOK Go.Proofs.Tryz.prog [xi29] := tabOK1 Go.Proofs.Tryz.func29 (by kernel_rfl) (by kernel_rfl) rfl rfl
noncomputable def cf29 : FnC := (.mk 1361130119258639460758097274843451846655 133 (.many [(.cell 7 true q1g), q4q]) (.seq (.rg (.op .no q20 q7 (.op .no (.box 45 qa) qz (.op .no q17 q1e q4r)))) (.seq (.seq (.rg (.op .no (.ld 7 true q0) .loc (.op .no q4s .loc q3j))) (.seq (.rg (.op .no q3r .loc (.op .no q25 q4u .fin))) (.cond q4v (.seq (.rg (.op .no q4w .loc (.op .no q3r .loc q4x))) .ret) .skip))) (.seq (.seq (.rg (.op .no (.ld 4 true q10) .loc (.op .no (.call (.lit (.clo 78 [])) [qc]) .loc q4y))) (.seq (.rg (.op .no q4z .loc (.op .no q25 q51 .fin))) (.cond q52 (.seq (.rg (.op .no q4w .loc (.op .no q4z .loc q4x))) .ret) .skip))) (.seq (.rg (.op .no (.ld 7 true q0) .loc (.op .no q1p .loc (.op .no q1t .loc (.op .no (.call (.lit (.clo 79 [])) [qk, qc]) .loc (.op .no qf .loc (.op .no q22 .loc (.op .no q23 .loc (.op .no q53 .loc (.op .no q54 q33 (.op .no q3p q26 q3o))))))))))) (.seq (.seq (.rg (.op .no q3u .loc (.op .no q25 q56 .fin))) (.cond q57 (.seq (.rg (.op .no q4w .loc (.op .no q3u .loc q4x))) .ret) .skip)) (.seq (.seq (.rg (.op .no q3t .loc (.op .no q3y .loc (.op .no q47 q58 .fin)))) (.cond q59 (.seq (.rg (.op .no q4w .loc (.op .no q5a .non q5b))) .ret) .skip)) (.seq (.rg (.op .no q1p .loc (.op .no q1t .loc (.op .no q5c .loc (.op .no qf .loc (.op .no q22 .loc (.op .no q23 .loc (.op .no q5d q2j (.op .no (.st 3 q2k qi) .non q5e))))))))) (.seq (.rg (.op .no (.fadr 6 q0) .loc (.op .no qd .loc (.op .no q1p .loc (.op .no q1t .loc (.op .no (.call (.lit (.clo 80 [])) [qk, qc]) .loc (.op .no qf .loc (.op .no q22 .loc (.op .no q23 .loc (.op .no q53 .loc (.op .no q54 q2l (.op .no q3p q2m q5e)))))))))))) (.seq (.rg (.op .no q3x .loc (.op .no q4h .loc (.op .no q3p q2q q5f)))) (.seq (.seq (.rg (.op .no q5g .loc (.op .no qd .loc (.op .no (.bin .eql 5 qc q5h) q5i .fin)))) (.cond q5j (.rg (.op .no q4h .loc (.op .no q3x .loc (.op .no q3p q2q q5f)))) .skip)) (.seq (.rgd (.op .no q5k .loc (.op .no (.hard (.call (.lit (.clo 82 [])) [qc])) .loc (.op .no (.softw q5l 1 (.load 28 (.tmp 11)) (rfR 1361130119258639460758097274843451846655 [74, 73] [11])) .loc (.op .no (.hard (.call (.lit (.clo 81 [])) [qi, qc])) .loc (.op .no q49 .loc (.op .no q5m .loc (.op .no (.soft q23) .loc (.op .no (.soft q3p) q5o (.op .no q49 q2d .fin))))))))) 0) (.seq (.seq (.rg (.op .no q3u .loc (.op .no q25 q5p .fin))) (.cond q5q q5s .skip)) (.seq (.rg (.op .no q5t .loc (.op .no q2u .loc (.op .no (.bld [(.mk 3 3 qc)] [(.int .i64 (.ofNat 0)), (.int .i64 (.ofNat 0)), (.con (.slice Option.none 0 0)), (.int .u8 (.ofNat 0)), (.int .i64 (.ofNat 0)), (.int .i64 (.ofNat 0)), (.con (.slice Option.none 0 0))]) .loc (.op .no q17 q5v (.op .no (.st 7 q5w qc) .non .fin)))))) (.seq (.seq (.rgd (.op .no q5y .loc (.op .no (.soft q5z) .loc (.op .no q60 .loc (.op .no q61 .loc (.op .no q60 .loc (.op .no (.soft (.gen (.convert 5 3 (.tmp 89)) (rfR 1361130119258639460758097274843451846655 [89, 88, 87, 86, 85] [89]))) .loc (.op .no (.soft (.bin .eql 3 qn qc)) q62 .fin))))))) 0) (.cond q63 (.seq (.rg (.op .no q5t .loc (.op .no q2u .loc (.op .no q5l .loc (.op .no q64 .loc (.op .no qf .loc (.op .no q22 .loc (.op .no q23 .loc (.op .no (.fadr 3 q5w) .loc (.op .no q65 .non (.op .no q3p q2d .fin))))))))))) (.seq (.rg (.op .no q3u .loc (.op .no q25 q66 .fin))) (.cond q67 q5s .skip))) .skip)) (.seq (.rg (.op .no q68 .loc (.op .no q6a .loc q6c))) (.seq (.seq (.rg (.op .no (.fadr 3 q10) .loc (.op .no qd .loc (.op .no q6d q6e .fin)))) (.cond q6f (.rg (.op .no q6a .loc (.op .no q68 .loc q6c))) .skip)) (.seq (.rg (.op .no q6g .loc (.op .no q2u .loc (.op .no q5t .loc (.op .no q2u .loc (.op .no q6h .loc (.op .no qf .loc (.op .no q22 .loc (.op .no q23 .loc (.op .no (.alloc 98 [(.con (.slice Option.none 0 0))]) q6j (.op .no (.st 1 q6k qi) .non q5e))))))))))) (.seq (.rg (.op .no q6g .loc (.op .no q2u .loc (.op .no q3t .loc (.op .no (.gen (.makeFunc (Fn.func 85) (Array.mk []) (Array.mk [(.tmp 20), (.tmp 3)])) (rfC 1361130119258639460758097274843451846655 [124, 123, 122])) .loc (.op .no (.call (.lit (.clo 84 [])) [qk, qi, qc]) .loc (.op .no (.fadr 0 q5w) .loc (.op .no (.st 3 qc qi) .non .fin)))))))) (.seq (.seq (.rg (.op .no (.ld 7 true q5w) .loc (.op .no q4s .loc (.op .no q25 q6l .fin)))) (.cond q6m q5s .skip)) (.seq (.rg (.op .no (.ld 7 true q5w) .loc (.op .no q5a .non q4r))) .ret)))))))))))))))))))))
theorem cf29_ok : compF Go.Proofs.Tryz.prog xi29 = some cf29 := by kernel_rfl
noncomputable def xi32 := xiM 32 Go.Proofs.Tryz.f32 447
theorem xi32_ok : TabOK Go.Proofs.Tryz.prog [xi32] := tabOK1 Go.Proofs.Tryz.func32 (by kernel_rfl) (by kernel_rfl) rfl rfl
noncomputable def cf32 : FnC := (.mk 447 18 q6o (.seq q6t (.seq (.rg (.op .no q6u .loc (.op .no q6v .loc (.op .no q6w .loc (.op .no qf .loc (.op .no q22 .loc (.op .no q23 .loc (.op .no q53 .loc (.op .no q54 .loc (.op .no q54 q2g q6x)))))))))) q6y)))
theorem cf32_ok : compF Go.Proofs.Tryz.prog xi32 = some cf32 := by kernel_rfl
noncomputable def xi34 := xiM 34 Go.Proofs.Tryz.f34 8070450540872404851
theorem xi34_ok : TabOK Go.Proofs.Tryz.prog [xi34] := tabOK1 Go.Proofs.Tryz.func34 (by kernel_rfl) (by kernel_rfl) rfl rfl
noncomputable def cf34 : FnC := (.mk 8070450540872404851 76 q1 (.seq q6z (.seq (.rg (.op .no (.gen (.makeMap 170 Option.none) (rfC 8070450540872404851 [])) .loc q70)) (.seq (.rg (.op .no q6s q1e .fin)) (.seq (.seq (.rg (.op .no q18 .loc (.op .no q19 .loc (.op .no (.bsl 29 2 1 [qi, qc]) .loc (.op .no (.call (.lit (.clo 89 [])) [qc]) q26 q71))))) (.block 0 (.loop (.seq q72 (.seq (.cond q2p .skip q1n) (.seq (.block 1 (.seq (.rg (.op .no (.ias 4 q28 q2k) .loc (.op .no q73 .loc (.op .no q74 q1l (.op .no (.st 4 q1m qc) .non .fin))))) (.seq (.seq (.rg (.op .no (.fadr 3 q1m) .loc (.op .no qd .loc (.op .no q3y .loc (.op .no q47 q2m .fin))))) (.cond q2o q75 .skip)) (.seq (.seq (.rg (.op .no q76 .loc (.op .no q44 .loc (.op .no q2u .loc (.op .no (.gen (.lookup 170 (.tmp 27) (.tmp 29) true) (rfC 8070450540872404851 [29, 28, 27])) .loc q77))))) (.seq (.rg (.op .no q4z q2q .fin)) (.cond q2s (.seq (.rgd (.op .no q1v .loc (.op .no q78 .loc (.op .no q7a .loc (.op .no q7c .loc (.op .no q60 .loc (.op .no (.soft (.fadr 3 q1m)) .loc (.op .no q60 .loc (.op .no (.hard q7d) .loc (.op .no q1v .loc (.op .no q78 .loc (.op .no q7a .loc (.op .no q7c .loc q7e)))))))))))) 0) q75) .skip))) (.seq (.rg (.op .no q76 .loc (.op .no q44 .loc (.op .no q2u .loc (.op .no q1h .loc (.op .no q3y .loc (.op .no (.gen (.mapUpdate 170 (.tmp 46) (.tmp 48) (.tmp 50)) (rfC 8070450540872404851 [50, 49, 48, 47, 46])) .non .fin))))))) (.rg (.op .no q1h .loc (.op .no (.ld 4 true q1m) .loc (.op .no q7f .loc (.op .no (.bsl 92 1 4 [qc]) .loc (.op .no (.app 29 92 4 48 qn qc) .loc q1y))))))))))) q7h)))))) (.seq (.rg (.op .no q1h .loc (.op .no (.call (.lit (.clo 91 [])) [qc, (.lit (.clo 92 []))]) .loc .fin))) (.seq (.seq (.rg (.op .no q1h .loc (.op .no q3y q37 (.op .no q6 q5o .fin)))) (.block 2 (.loop (.seq q7i (.seq (.cond q5w .skip q7j) (.seq (.block 3 (.seq (.rg (.op .no q6a .loc q3l)) (.rg (.op .no q1h .loc (.op .no q3t .loc (.op .no q1h .loc (.op .no q3t .loc (.op .no q79 .loc (.op .no q73 .loc q7l))))))))) q7m)))))) (.seq (.rg (.op .no q1h .loc (.op .no (.call (.lit (.clo 95 [])) [qc]) .loc (.op .no q7n .loc q29)))) .ret))))))))
theorem cf34_ok : compF Go.Proofs.Tryz.prog xi34 = some cf34 := by kernel_rfl
noncomputable def xi38 := xiM 38 Go.Proofs.Tryz.f38 23
theorem xi38_ok : TabOK Go.Proofs.Tryz.prog [xi38] := tabOK1 Go.Proofs.Tryz.func38 (by kernel_rfl) (by kernel_rfl) rfl rfl
noncomputable def cf38 : FnC := (.mk 23 19 (.one (.cell 3 true q10)) (.seq (.rg (.op .no q3 q7 (.op .no q7o qz .fin))) (.seq (.rgd (.op .no q7p .loc (.op .no (.soft q7q) .loc (.op .no q7r .loc (.op .no q60 .loc (.op .no (.soft (.bin .rem 3 qk qc)) .loc (.op .no q7p .loc (.op .no (.soft q7q) .loc (.op .no q7r .loc (.op .no q60 .loc (.op .no (.soft (.bin .quo 3 qk qc)) .loc (.op .no q7p .loc (.op .no (.soft (.bin .rem 3 qc q1i)) .loc (.op .no (.soft (.gen (.convert 3 5 (.tmp 16)) (rfR 23 [16, 15, 14, 13, 12, 11, 10, 9, 8, 7, 6, 5] [16]))) .loc (.op .no (.soft (.bld [(.mk 0 1 q7t), (.mk 1 1 qn), q7u] [(.int .i64 (.ofNat 0)), (.int .i64 (.ofNat 0)), (.int .u8 (.ofNat 0))])) .loc (.op .no (.hard q7v) .non .fin))))))))))))))) 0) .ret)))
theorem cf38_ok : compF Go.Proofs.Tryz.prog xi38 = some cf38 := by kernel_rfl
noncomputable def xi39 := xiM 39 Go.Proofs.Tryz.f39 262271
theorem xi39_ok : TabOK Go.Proofs.Tryz.prog [xi39] := tabOK1 Go.Proofs.Tryz.func39 (by kernel_rfl) (by kernel_rfl) rfl rfl
noncomputable def cf39 : FnC := (.mk 262271 34 (.many [(.cell 9 true q0), q7w]) (.seq (.rg (.op .no q20 q4 (.op .no q24 q7 q7x))) (.seq (.rg (.op .no qb .loc (.op .no q2u .loc (.op .no q7y .loc (.op .no q2u .loc (.op .no (.fadr 6 qa) .loc (.op .no qd .loc (.op .no (.call (.lit (.clo 97 [])) [qs, qk, qc]) .loc (.op .no qf .loc q7z))))))))) (.seq (.seq (.rg (.op .no q2c .loc q80)) (.cond q2x (.seq (.rg (.op .no (.bld [] [(.int .i64 (.ofNat 0)), (.int .i64 (.ofNat 0)), (.con (.slice Option.none 0 0)), (.int .u8 (.ofNat 0)), (.int .i64 (.ofNat 0)), (.int .i64 (.ofNat 0)), (.con (.slice Option.none 0 0)), (.con (.slice Option.none 0 0)), (.con (.slice Option.none 0 0))]) .loc q81)) .ret) .skip)) (.seq (.rg (.op .no qb .loc (.op .no q2u .loc (.op .no q7y .loc (.op .no q2u .loc (.op .no q6h .loc (.op .no qf .loc (.op .no q22 .loc (.op .no q23 .loc (.op .no q3p q2g q2b)))))))))) (.seq (.rg (.op .no q21 .loc (.op .no q3r .loc (.op .no q1h .loc (.op .no (.bld [(.mk 0 7 qk), (.mk 7 1 qi), (.mk 8 1 qc)] [(.int .i64 (.ofNat 0)), (.int .i64 (.ofNat 0)), (.con (.slice Option.none 0 0)), (.int .u8 (.ofNat 0)), (.int .i64 (.ofNat 0)), (.int .i64 (.ofNat 0)), (.con (.slice Option.none 0 0)), (.con (.slice Option.none 0 0)), (.con (.slice Option.none 0 0))]) .loc q81))))) .ret))))))
theorem cf39_ok : compF Go.Proofs.Tryz.prog xi39 = some cf39 := by kernel_rfl
noncomputable def xi40 := xiM 40 Go.Proofs.Tryz.f40 132055
theorem xi40_ok : TabOK Go.Proofs.Tryz.prog [xi40] := tabOK1 Go.Proofs.Tryz.func40 (by kernel_rfl) (by kernel_rfl) rfl rfl
noncomputable def cf40 : FnC := (.mk 132055 19 q1 (.seq (.rg (.op .no (.box 101 q2) q4 q8)) (.seq (.seq (.rg (.op .no (.fadr 8 qa) .loc (.op .no qd q1e q83))) (.block 0 (.loop (.seq q84 (.seq q85 (.seq (.block 1 (.seq (.rg (.op .no (.ias 9 q1g q2h) .loc q87)) (.seq (.rg (.op .no q2a .loc (.op .no qb .loc (.op .no q88 .loc (.op .no qd .loc (.op .no (.call (.lit (.clo 98 [])) [qn, qc]) .loc q89)))))) (.cond q34 (.seq (.rg (.op .no (.mv q8a) q7 .fin)) .ret) .skip)))) q8b)))))) q16)))
theorem cf40_ok : compF Go.Proofs.Tryz.prog xi40 = some cf40 := by kernel_rfl
noncomputable def xi41 := xiM 41 Go.Proofs.Tryz.f41 990887
theorem xi41_ok : TabOK Go.Proofs.Tryz.prog [xi41] := tabOK1 Go.Proofs.Tryz.func41 (by kernel_rfl) (by kernel_rfl) rfl rfl
noncomputable def cf41 : FnC := (.mk 990887 35 q8c (.seq (.rg (.op .no (.box 101 q2) q7 .fin)) (.seq (.rg (.op .no (.fadr 8 q0) .loc (.op .no qd q1l q8e))) (.block 0 (.loop (.seq q8f (.seq q8g (.seq (.block 1 (.seq (.rg (.op .no (.ias 9 q1m q2x) .loc q87)) (.seq (.rg (.op .no (.fadr 7 q10) .loc (.op .no qd q26 q71))) (.block 2 (.loop (.seq q72 (.seq (.cond q2p .skip q7j) (.seq (.block 3 (.seq (.rg (.op .no (.ias 3 q28 q2k) .loc (.op .no q2u .loc (.op .no q8h q1e q8j)))) (.rgd (.op .no q7r .loc (.op .no q1s .loc (.op .no q1s .loc (.op .no q1u .loc (.op .no q8l .loc (.op .no (.hard (.call (.lit (.clo 99 [])) [qi, qc])) .loc (.op .no (.softw (.ld 9 true q0) 1 (.load 101 (.tmp 2)) (rfR 990887 [28, 27, 26, 25, 24, 23] [2])) .loc (.op .no (.softw q8k 1 (.load 186 (.tmp 7)) (rfR 990887 [29, 28, 27, 26, 25, 24, 23] [7])) .loc (.op .no (.hard (.call (.lit (.clo 100 [])) [qi, qc])) .loc (.op .no q7p .loc (.op .no (.hard (.call qc [qs, qi])) .loc .fin))))))))))) 0))) q7h)))))))) q8m))))))))
theorem cf41_ok : compF Go.Proofs.Tryz.prog xi41 = some cf41 := by kernel_rfl
noncomputable def xi42 := xiM 42 Go.Proofs.Tryz.f42 31
theorem xi42_ok : TabOK Go.Proofs.Tryz.prog [xi42] := tabOK1 Go.Proofs.Tryz.func42 (by kernel_rfl) (by kernel_rfl) rfl rfl
noncomputable def cf42 : FnC := (.mk 31 20 q8c (.seq (.rg (.op .no (.box 107 q2) q1e .fin)) (.rg (.op .no q8n .loc (.op .no qf .loc (.op qg q8o .loc (.op qj (.ld 2 true q1g) .loc (.op ql (.gen (.lookup 105 (.tmp 8) (.tmp 9) false) (rfC 31 [9, 8, 7, 6])) .loc (.op qr (.bin .neq 60 qc q3m) .loc (.op qt qf .loc (.op q4g q8o .loc (.op q4i (.ld 2 true q1g) .loc (.op q4j (.gen (.lookup 105 (.tmp 13) (.tmp 14) false) (rfC 31 [14, 13, 12, 11, 10, 9, 8, 7, 6])) .loc (.op q4l q19 .loc (.op q4m (.bin .neq 60 qi qc) .loc (.op (.yes q8p false) q4n .loc (.op .no (.pick q8q qo qc) .loc q8r)))))))))))))))))
theorem cf42_ok : compF Go.Proofs.Tryz.prog xi42 = some cf42 := by kernel_rfl
noncomputable def xi43 := xiM 43 Go.Proofs.Tryz.f43 17389
theorem xi43_ok : TabOK Go.Proofs.Tryz.prog [xi43] := tabOK1 Go.Proofs.Tryz.func43 (by kernel_rfl) (by kernel_rfl) rfl rfl
noncomputable def cf43 : FnC := (.mk 17389 18 q8s (.seq q8t (.seq q15 (.seq (.seq q8u (.block 0 (.loop (.seq q84 (.seq q85 (.seq (.block 1 (.seq (.rg (.op .no (.ias 1 q1g q2h) .loc q8v)) (.seq (.rg (.op .no q76 .loc (.op .no q8w .loc (.op .no (.bin .neq 3 qi qc) q33 .fin)))) q8y))) q8b)))))) q8z))))
theorem cf43_ok : compF Go.Proofs.Tryz.prog xi43 = some cf43 := by kernel_rfl
noncomputable def xi44 := xiM 44 Go.Proofs.Tryz.f44 604275
theorem xi44_ok : TabOK Go.Proofs.Tryz.prog [xi44] := tabOK1 Go.Proofs.Tryz.func44 (by kernel_rfl) (by kernel_rfl) rfl rfl
noncomputable def cf44 : FnC := (.mk 604275 20 q1 (.seq q15 (.seq (.rg (.op .no q18 .loc (.op .no q90 .loc q70))) (.seq (.rg (.op .no q19 .loc (.op .no q90 .loc q1y))) (.seq q92 (.seq q93 (.seq (.seq (.rg (.op .no q18 .loc (.op .no q19 .loc (.op .no (.bin .lss 41 qi qc) q33 .fin)))) q94) (.seq (.seq (.rg (.op .no q18 .loc (.op .no q19 .loc (.op .no (.bin .gtr 41 qi qc) q26 .fin)))) q95) q16))))))))
theorem cf44_ok : compF Go.Proofs.Tryz.prog xi44 = some cf44 := by kernel_rfl
noncomputable def xi45 := xiM 45 Go.Proofs.Tryz.f45 604275
theorem xi45_ok : TabOK Go.Proofs.Tryz.prog [xi45] := tabOK1 Go.Proofs.Tryz.func45 (by kernel_rfl) (by kernel_rfl) rfl rfl
noncomputable def cf45 : FnC := (.mk 604275 20 q1 (.seq q15 (.seq (.rg (.op .no q18 .loc (.op .no q96 .loc q70))) (.seq (.rg (.op .no q19 .loc (.op .no q96 .loc q1y))) (.seq q92 (.seq q93 (.seq (.seq (.rg (.op .no q18 .loc q98)) q94) (.seq (.seq (.rg (.op .no q18 .loc (.op .no q19 .loc (.op .no q99 q26 .fin)))) q95) q16))))))))
theorem cf45_ok : compF Go.Proofs.Tryz.prog xi45 = some cf45 := by kernel_rfl
noncomputable def xi46 := xiM 46 Go.Proofs.Tryz.f46 604275
theorem xi46_ok : TabOK Go.Proofs.Tryz.prog [xi46] := tabOK1 Go.Proofs.Tryz.func46 (by kernel_rfl) (by kernel_rfl) rfl rfl
noncomputable def cf46 : FnC := (.mk 604275 20 q1 (.seq q15 (.seq (.rg (.op .no q18 .loc (.op .no q9a .loc q70))) (.seq (.rg (.op .no q19 .loc (.op .no q9a .loc q1y))) (.seq q92 (.seq q93 (.seq (.seq (.rg (.op .no q18 .loc (.op .no q19 .loc (.op .no (.bin .lss 5 qi qc) q33 .fin)))) q94) (.seq (.seq (.rg (.op .no q18 .loc (.op .no q19 .loc (.op .no (.bin .gtr 5 qi qc) q26 .fin)))) q95) q16))))))))
theorem cf46_ok : compF Go.Proofs.Tryz.prog xi46 = some cf46 := by kernel_rfl
noncomputable def xi48 := xiM 48 Go.Proofs.Tryz.f48 4297195999
theorem xi48_ok : TabOK Go.Proofs.Tryz.prog [xi48] := tabOK1 Go.Proofs.Tryz.func48 (by kernel_rfl) (by kernel_rfl) rfl rfl
noncomputable def cf48 : FnC := (.mk 4297195999 33 q9b (.seq (.rg (.op .no q20 qz (.op .no q9c q1e q4r))) (.seq (.rg (.op .no (.fadr 6 q10) .loc (.op .no qd .loc (.op .no q8k .loc (.op .no (.call (.lit (.clo 61 [])) [qi, qc]) .loc q3j))))) (.seq (.seq (.rg (.op .no q3r .loc (.op .no q3y .loc (.op .no q8w .loc (.op .no q3y .loc (.op .no (.bin .neq 3 qk qc) q33 .fin)))))) (.cond q34 q9d .skip)) (.seq (.seq (.rg q8d) (.block 0 (.loop (.seq (.seq (.rg (.op .no q4z .loc (.op .no q3r .loc (.op .no q3y .loc (.op .no q9e q26 .fin))))) q9f) (.seq (.block 1 (.seq (.rgd (.op .no q78 .loc (.op .no q9g .loc (.op .no q9i .loc (.op .no q60 .loc (.op .no q9j .loc (.op .no q9g .loc (.op .no q9i .loc (.op .no q60 .loc (.op .no (.soft (.bin .neq 3 qs qc)) q2d .fin))))))))) 0) (.cond q2e q9d .skip))) q9k))))) (.seq (.rg q9l) .ret))))))
theorem cf48_ok : compF Go.Proofs.Tryz.prog xi48 = some cf48 := by kernel_rfl
noncomputable def xi49 := xiM 49 Go.Proofs.Tryz.f49 133175
theorem xi49_ok : TabOK Go.Proofs.Tryz.prog [xi49] := tabOK1 Go.Proofs.Tryz.func49 (by kernel_rfl) (by kernel_rfl) rfl rfl
noncomputable def cf49 : FnC := (.mk 133175 30 (.one (.cell 3 true q0)) (.seq (.rg (.op .no q9m q4 (.op .no q5d q7 .fin))) (.seq (.seq (.rg (.op .no qb .loc (.op .no qd qz .fin))) (.block 0 (.seq (.rg (.op .no (.bin .eql 41 q10 q3c) .loc q1y)) (.cond q1g (.seq (.rg (.op .no qh .loc (.op .no qd .loc (.op .no q9n .loc (.op .no (.bld [(.mk 0 1 q4o), q1a] [(.int .u8 (.ofNat 0)), (.int .i64 (.ofNat 0)), (.int .i64 (.ofNat 0))]) .loc q9o))))) .ret) (.seq (.rg (.op .no (.bin .eql 41 q10 q41) .loc q2b)) (.cond q1m (.seq (.rg (.op .no qh .loc (.op .no qd .loc (.op .no q9n .loc (.op .no (.bld [q9p, q7u] [(.int .u8 (.ofNat 0)), (.int .i64 (.ofNat 0)), (.int .i64 (.ofNat 0))]) .loc q9o))))) .ret) (.seq (.rg (.op .no (.bin .eql 41 q10 q3m) .loc q3j)) (.cond q2h (.seq (.rg (.op .no qh .loc (.op .no qd .loc (.op .no qh .loc (.op .no qd .loc (.op .no q9q .loc q9o)))))) .ret) .skip)))))))) (.seq (.rg (.op .no qh .loc (.op .no qd .loc (.op .no (.gen (.unOp UnOp.neg 3 (.tmp 25)) (rfC 133175 [25, 24])) .loc (.op .no qh .loc (.op .no qd .loc (.op .no q9r .loc q9o))))))) .ret))))
theorem cf49_ok : compF Go.Proofs.Tryz.prog xi49 = some cf49 := by kernel_rfl
noncomputable def xi50 := xiM 50 Go.Proofs.Tryz.f50 316912650061669572962872110591
theorem xi50_ok : TabOK Go.Proofs.Tryz.prog [xi50] := tabOK1 Go.Proofs.Tryz.func50 (by kernel_rfl) (by kernel_rfl) rfl rfl
noncomputable def cf50 : FnC := (.mk 316912650061669572962872110591 110 q9s (.seq (.rg (.op .no q20 q4 q9t)) (.seq (.seq (.rg (.op .no q21 .loc (.op .no q4s .loc q1y))) (.seq (.rg (.op .no q1h .loc q9u)) (.cond q38 q9v .skip))) (.seq (.rg (.op .no qb .loc (.op .no q2u .loc (.op .no q7y .loc (.op .no q2u .loc (.op .no q9w .loc (.op .no qf .loc (.op .no q22 .loc (.op .no q23 .loc q9x))))))))) (.seq (.seq (.rg (.op .no q3r .loc q9y)) (.cond q69 q9z .skip)) (.seq (.rg (.op .no qb .loc (.op .no q1r .loc (.op .no q1t .loc (.op .no qa0 .loc (.op .no qf .loc (.op .no q22 .loc (.op .no q23 .loc (.op .no q3p q2w q3j))))))))) (.seq (.seq (.rg (.op .no q3r .loc qa1)) (.cond q5w q9z .skip)) (.seq (.rg (.op .no q6s q33 .fin)) (.seq (.seq qa3 (.block 0 (.loop (.seq qa4 (.seq qa5 (.seq (.block 1 (.seq (.rg (.op .no (.ias 2 q6k q52) .loc (.op .no q1t .loc (.op .no qa6 q26 qa7)))) (.seq (.seq (.rg (.op .no qb .loc (.op .no q2u .loc (.op .no qa8 .loc (.op .no qd .loc (.op .no (.fadr 1 q28) .loc (.op .no qd .loc (.op .no qa9 .loc (.op .no qf .loc (.op .no q22 .loc (.op .no q23 .loc (.op .no q3p q2d q5e)))))))))))) (.seq (.rg (.op .no q3u .loc (.op .no (.bin .neq 60 qc q5h) q58 .fin))) (.cond q59 q75 .skip))) (.seq (.rg (.op .no qb .loc (.op .no q1r .loc (.op .no q1t .loc (.op .no qa8 .loc (.op .no qd .loc (.op .no (.fadr 1 q28) .loc (.op .no qd .loc (.op .no qaa .loc (.op .no qf .loc (.op .no q22 .loc (.op .no q23 .loc (.op .no q3p q2j q5e))))))))))))) (.seq (.rgd (.op .no qab .loc (.op .no (.soft qa8) .loc (.op .no q60 .loc (.op .no qac .loc (.op .no qad .loc (.op .no qab .loc (.op .no qae .loc (.op .no qag .loc (.op .no qad .loc (.op .no (.hard (.call (.lit (.clo 106 [])) [qs, qc])) .loc (.op .no q49 .loc (.op .no q5m .loc (.op .no (.soft q23) .loc (.op .no (.soft q3p) q2l (.op .no q49 .loc .fin))))))))))))))) 0) (.seq (.rg (.op .no q2c .loc (.op .no qa8 .loc (.op .no qd .loc (.op .no (.ias 3 qk qc) .loc (.op .no q2u .loc (.op .no q3x .loc (.op .no (.call (.lit (.clo 107 [])) [qi, qc]) .loc (.op .no qf .loc (.op .no q22 .loc (.op .no q23 .loc (.op .no q3d q2m (.op .no (.st 2 q2o qi) .non qah))))))))))))) (.seq (.rg (.op .no q68 .loc (.op .no q4f q5i .fin))) (.cond q5j (.rg (.op .no q3t .loc (.op .no (.ld 2 true q2o) .loc (.op .no (.bsl 43 1 2 [qc]) .loc (.op .no (.app 116 43 2 16 qk qc) .loc q3l))))) .skip)))))))) qai)))))) (.seq (.rg (.op .no q3t .loc (.op .no (.call (.lit (.clo 108 [])) [qc, (.lit (.clo 109 []))]) .loc .fin))) (.seq (.rg (.op .no q3t .loc (.op .no (.call (.lit (.clo 112 [])) [qc]) .loc (.op .no (.call (.lit (.clo 111 [])) [qc]) .loc (.op .no (.call (.lit (.clo 110 [])) [qc]) .loc qaj))))) .ret)))))))))))
theorem cf50_ok : compF Go.Proofs.Tryz.prog xi50 = some cf50 := by kernel_rfl
noncomputable def xi55 := xiM 55 Go.Proofs.Tryz.f55 4261455
theorem xi55_ok : TabOK Go.Proofs.Tryz.prog [xi55] := tabOK1 Go.Proofs.Tryz.func55 (by kernel_rfl) (by kernel_rfl) rfl rfl
noncomputable def cf55 : FnC := (.mk 4261455 35 (.many [(.cell 3 true q0), q7w]) (.seq (.rg (.op .no q9m q4 (.op .no q5d q7 q7x))) (.seq (.seq (.rg (.op .no qak .loc (.op .no qal .loc (.op .no q25 q1e .fin)))) (.cond q1g (.seq (.rg (.op .no (.bld [] [(.int .u8 (.ofNat 0)), (.int .i64 (.ofNat 0)), (.int .i64 (.ofNat 0))]) .loc (.op .no (.st 3 q0 qc) .non (.op .no q11 qz .fin)))) .ret) .skip)) (.seq (.seq (.rg (.op .no qb .loc (.op .no qd q1l .fin))) (.block 0 (.seq (.rg (.op .no (.bin .eql 41 q1m q3c) .loc q3j)) (.cond q2h (.seq (.rg (.op .no qh .loc (.op .no qd .loc (.op .no q9n .loc (.op .no (.bld [(.mk 0 1 q4o), q1a, (.mk 2 1 q5)] [(.int .u8 (.ofNat 0)), (.int .i64 (.ofNat 0)), (.int .i64 (.ofNat 0))]) .loc qam))))) .ret) (.seq (.rg (.op .no (.bin .eql 41 q1m q41) .loc q4y)) (.cond q2x (.seq (.rg (.op .no qh .loc (.op .no qd .loc (.op .no q9n .loc (.op .no (.bld [q9p, (.mk 1 1 q5), q7u] [(.int .u8 (.ofNat 0)), (.int .i64 (.ofNat 0)), (.int .i64 (.ofNat 0))]) .loc qam))))) .ret) (.seq (.rg (.op .no (.bin .eql 41 q1m q3m) .loc q3l)) (.cond q34 (.seq (.rg (.op .no qh .loc (.op .no qd .loc (.op .no qh .loc (.op .no qd .loc (.op .no q9q .loc qam)))))) .ret) .skip)))))))) (.seq (.rg (.op .no qh .loc (.op .no qd .loc (.op .no (.gen (.unOp UnOp.neg 3 (.tmp 30)) (rfC 4261455 [30, 29])) .loc (.op .no qh .loc (.op .no qd .loc (.op .no q9r .loc qam))))))) .ret)))))
theorem cf55_ok : compF Go.Proofs.Tryz.prog xi55 = some cf55 := by kernel_rfl
noncomputable def xi61 := xiM 61 Go.Proofs.Tryz.f61 262715
theorem xi61_ok : TabOK Go.Proofs.Tryz.prog [xi61] := tabOK1 Go.Proofs.Tryz.func61 (by kernel_rfl) (by kernel_rfl) rfl rfl
noncomputable def cf61 : FnC := (.mk 262715 24 qan (.seq qao (.seq (.seq (.rg q1f) (.block 0 (.loop (.seq (.seq (.rg (.op .no q1h .loc (.op .no q18 .loc (.op .no q3y .loc (.op .no q9e q1l .fin))))) q1o) (.seq (.block 1 (.seq (.rgd (.op .no qap .loc (.op .no q1v .loc (.op .no q7a .loc (.op .no q1s .loc (.op .no qad .loc (.op .no (.soft q6u) .loc (.op .no (.soft qaq) q2g .fin))))))) 0) (.cond q2h (.seq (.rg (.op .no q18 .loc (.op .no q1h .loc (.op .no q79 .loc (.op .no q7b .loc q8v))))) .ret) .skip))) q1z))))) qar)))
theorem cf61_ok : compF Go.Proofs.Tryz.prog xi61 = some cf61 := by kernel_rfl
noncomputable def xi63 := xiM 63 Go.Proofs.Tryz.f63 1048583
theorem xi63_ok : TabOK Go.Proofs.Tryz.prog [xi63] := tabOK1 Go.Proofs.Tryz.func63 (by kernel_rfl) (by kernel_rfl) rfl rfl
noncomputable def cf63 : FnC := (.mk 1048583 21 q1 (.seq (.rg (.op .no q9m q4 q8)) (.seq (.seq (.rg (.op .no qb .loc (.op .no qd .loc (.op .no (.bin .lss 41 qc q3c) .loc (.op .no qf .loc (.op qg qb .loc (.op qj qd .loc (.op ql (.bin .gtr 41 qc q4o) .loc (.op .no qp .loc (.op .no qf .loc (.op qg qh .loc (.op qj qd .loc (.op ql qas .loc (.op .no qp .loc (.op .no qf .loc (.op qg qh .loc (.op qj qd .loc (.op ql qat .loc qau)))))))))))))))))) q14) q16)))
theorem cf63_ok : compF Go.Proofs.Tryz.prog xi63 = some cf63 := by kernel_rfl
noncomputable def xi78 := xiM 78 Go.Proofs.Tryz.f78 2055
theorem xi78_ok : TabOK Go.Proofs.Tryz.prog [xi78] := tabOK1 Go.Proofs.Tryz.func78 (by kernel_rfl) (by kernel_rfl) rfl rfl
noncomputable def cf78 : FnC := (.mk 2055 12 q1 (.seq (.rg (.op .no (.box 45 q2) q4 q8)) (.seq (.seq (.rg (.op .no qb .loc (.op .no q1t .loc (.op .no qal .loc (.op .no q25 .loc (.op .no qf .loc (.op qg qav .loc (.op qj qd .loc (.op ql (.bin .gtr 5 qc q3c) .loc qau))))))))) q14) q16)))
theorem cf78_ok : compF Go.Proofs.Tryz.prog xi78 = some cf78 := by kernel_rfl
noncomputable def xi79 := xiM 79 Go.Proofs.Tryz.f79 5071840341233518085443831578623
theorem xi79_ok : TabOK Go.Proofs.Tryz.prog [xi79] := tabOK1 Go.Proofs.Tryz.func79 (by kernel_rfl) (by kernel_rfl) rfl rfl
noncomputable def cf79 : FnC := (.mk 5071840341233518085443831578623 110 (.many [q6n, q4q, qaw]) (.seq (.rg (.op .no q20 q7 (.op .no (.box 43 qa) qz qax))) (.seq (.rg (.op .no q6g .loc (.op .no q2u .loc (.op .no q5t .loc (.op .no q2u .loc (.op .no q9w .loc qay)))))) (.seq (.seq (.rg (.op .no q3t .loc qa1)) (.cond q5w qb0 .skip)) (.seq (.rg (.op .no q4z .loc (.op .no q3y .loc (.op .no (.gen (.makeSlice 50 (.tmp 32) (.tmp 32)) (rfC 5071840341233518085443831578623 [32, 31])) .loc qb1)))) (.seq (.seq qa3 (.block 0 (.loop (.seq qa4 (.seq qa5 (.seq (.block 1 (.seq (.rg (.op .no (.mv q52) .loc (.op .no (.ias 3 q6k q52) .loc (.op .no q2u .loc (.op .no q7o q2j (.op .no q54 q2d (.op .no (.st 3 q2k qc) .non .fin))))))) (.seq (.rg (.op .no q5x .loc (.op .no q3u .loc (.op .no qb2 .loc (.op .no q5l .loc (.op .no (.call (.lit (.clo 114 [])) [qi, qc]) .loc (.op .no qf .loc (.op .no q22 .loc (.op .no q23 .loc (.op .no (.ias 1 q42 qx) .loc (.op .no (.st 1 qc qk) .non (.op .no q3p q33 .fin)))))))))))) (.seq (.rg (.op .no q3t .loc (.op .no q25 q58 .fin))) (.cond q59 qb0 .skip))))) qai)))))) (.seq (.rg (.op .no q6g .loc (.op .no q1r .loc (.op .no q1t .loc (.op .no qa0 .loc (.op .no qf .loc (.op .no q22 .loc (.op .no q23 .loc (.op .no q3p q2l q3l))))))))) (.seq (.seq (.rg (.op .no q3t .loc (.op .no q25 q5i .fin))) (.cond q5j qb0 .skip)) (.seq (.rg (.op .no q6s q2m .fin)) (.seq (.seq (.rg (.op .no q3x q5p (.op .no (.len q5q) q62 (.op .no q6 q66 .fin)))) (.block 2 (.loop (.seq (.rg (.op .no (.bin .lss 3 q67 q63) q6e .fin)) (.seq (.cond q6f .skip q7j) (.seq (.block 3 (.seq (.rg (.op .no (.ias 2 q5q q67) .loc (.op .no q1t .loc (.op .no qa6 q2q (.op .no (.st 2 q2s qc) .non .fin))))) (.seq (.rg (.op .no q6g .loc (.op .no q1r .loc (.op .no q1t .loc (.op .no (.fadr 0 q2s) .loc (.op .no qd .loc (.op .no (.fadr 1 q2s) .loc (.op .no qd .loc (.op .no qaa .loc (.op .no qf .loc (.op .no q22 .loc (.op .no q23 .loc (.op .no q3p q37 q5e))))))))))))) (.seq (.seq (.rgd (.op .no q5y .loc (.op .no (.soft (.fadr 0 q2s)) .loc (.op .no q60 .loc (.op .no qb4 .loc (.op .no q60 .loc (.op .no q5y .loc (.op .no q5k .loc (.op .no q9i .loc (.op .no q60 .loc (.op .no (.soft (.bin .eql 3 qs qc)) q6l .fin)))))))))) 0) (.cond q6m (.exit 3) .skip)) (.seq (.rg (.op .no q6g .loc (.op .no q2u .loc (.op .no (.fadr 0 q2s) .loc (.op .no qd .loc (.op .no (.fadr 1 q2s) .loc (.op .no qd .loc (.op .no qa9 .loc (.op .no qf .loc (.op .no q22 .loc (.op .no q23 .loc (.op .no q3p q5o q5e)))))))))))) (.seq (.rg (.op .no q6a .loc (.op .no qb5 qb6 .fin))) (.cond qb7 (.rg (.op .no q4h .loc (.op .no (.ld 2 true q2s) .loc (.op .no (.bsl 107 1 2 [qc]) .loc (.op .no (.app 154 107 2 16 qk qc) .loc q30))))) .skip))))))) (.rg (.op .no (.bin .add 3 q67 qe) .loc (.op .no qf q66 .fin))))))))) (.seq (.rg (.op .no q4h .loc (.op .no q5x .loc qb8))) .ret)))))))))))
theorem cf79_ok : compF Go.Proofs.Tryz.prog xi79 = some cf79 := by kernel_rfl
noncomputable def xi80 := xiM 80 Go.Proofs.Tryz.f80 34392259323
theorem xi80_ok : TabOK Go.Proofs.Tryz.prog [xi80] := tabOK1 Go.Proofs.Tryz.func80 (by kernel_rfl) (by kernel_rfl) rfl rfl
noncomputable def cf80 : FnC := (.mk 34392259323 52 (.many [q7w, q6n, q4q]) (.seq (.rg (.op .no (.box 43 qa) q7 (.op .no q6s qz (.op .no q6s q1e q4r)))) (.seq (.rg (.op .no (.alloc 257 [(.con (.slice Option.none 0 0)), (.con (.slice Option.none 0 0))]) q2g .fin)) (.seq (.seq (.rg (.op .no q3f .loc (.op .no q5c .loc (.op .no qf .loc (.op .no q22 .loc (.op .no q23 .loc (.op .no q5d .loc (.op .no q65 .non q6x)))))))) (.seq qb9 (.cond q2k qba .skip))) (.seq (.seq (.rg (.op .no q18 q2l qbb)) (.block 0 (.loop (.seq qbc (.seq (.cond q38 .skip q1n) (.seq (.block 1 (.seq (.rg (.op .no (.ias 4 q2p q2s) .loc (.op .no q73 .loc (.op .no q74 q33 (.op .no (.st 4 q34 qc) .non .fin))))) (.seq (.rg (.op .no q3f .loc (.op .no (.fadr 0 q34) .loc (.op .no q2u .loc (.op .no (.call (.lit (.clo 114 [])) [qk, qc]) .loc (.op .no qf .loc (.op .no q22 .loc (.op .no q23 .loc (.op .no q3p q26 q3o))))))))) (.seq (.seq (.rg (.op .no q3u .loc q9y)) (.cond q69 qba .skip)) (.rgd (.op .no (.soft (.ld 4 true q34)) .loc (.op .no (.hard q7f) .loc (.op .no q5y .loc (.op .no (.softw (.iaa 2 1 q2h qc) 1 (.indexAddr 257 (.tmp 7) (.tmp 37)) (rfR 34392259323 [37, 41, 40] [7, 37])) .loc (.op .no (.softw qd 1 (.load 29 (.tmp 38)) (rfR 34392259323 [38, 37, 41, 40] [38])) .loc (.op .no (.bsl 92 1 4 [qn] 0) .loc (.op .no (.hard qbd) .loc (.op .no q5y .loc (.op .no (.soft (.iaa 2 1 q2h qc)) .loc (.op .no (.hard (.st 1 qc qk)) .non .fin)))))))))) 2))))) qbe)))))) (.seq (.rgd (.op .no (.soft (.iaa 2 1 q2h q5)) .loc (.op .no q60 .loc (.op .no (.hard q7n) .loc (.op .no (.softw (.iaa 2 1 q2h qe) 1 (.indexAddr 257 (.tmp 7) (.const (.int .i64 (.ofNat 1)))) (rfR 34392259323 [48, 47, 46] [7])) .loc (.op .no (.softw qd 1 (.load 29 (.tmp 49)) (rfR 34392259323 [49, 48, 47, 46] [49])) .loc (.op .no (.hard q7n) .loc (.op .no (.soft (.mv qn)) qz (.op .no q49 q1e (.op .no (.soft q6) q1l .fin))))))))) 0) .ret))))))
theorem cf80_ok : compF Go.Proofs.Tryz.prog xi80 = some cf80 := by kernel_rfl
noncomputable def xi81 := xiM 81 Go.Proofs.Tryz.f81 68751067131
theorem xi81_ok : TabOK Go.Proofs.Tryz.prog [xi81] := tabOK1 Go.Proofs.Tryz.func81 (by kernel_rfl) (by kernel_rfl) rfl rfl
noncomputable def cf81 : FnC := (.mk 68751067131 49 (.many [q7w, q6n]) (.seq (.rg (.op .no q6q q7 (.op .no q6s qz q1f))) (.seq (.seq (.rg (.op .no q6u .loc (.op .no qbf .loc (.op .no q25 .loc (.op .no qf .loc (.op qg q18 .loc (.op qj (.call (.lit (.clo 157 [])) [qc, (.lit (.clo 158 []))]) .loc (.op .no q3s q2d .fin)))))))) (.cond q2e (.seq (.rg (.op .no q6s qz (.op .no q11 q1e .fin))) .ret) .skip)) (.seq (.rg (.op .no q18 .loc (.op .no q3y .loc (.op .no (.gen (.makeSlice 29 (.tmp 19) (.tmp 19)) (rfC 68751067131 [19, 18])) .loc q2b)))) (.seq (.seq qbg (.block 0 (.loop (.seq q2r (.seq q2t (.seq (.block 1 (.seq (.rg (.op .no q4h .loc (.op .no (.ias 4 q2k q2o) .loc qbh))) (.seq (.rg (.op .no q6u .loc (.op .no (.fadr 0 q2x) .loc (.op .no q2u .loc (.op .no (.call (.lit (.clo 160 [])) [qk, qc]) .loc (.op .no qf .loc (.op .no q22 .loc (.op .no q23 .loc (.op .no q7o q33 (.op .no qbi .non qb1)))))))))) (.seq (.seq (.rg (.op .no q5x .loc q9u)) (.cond q38 (.seq (.rg (.op .no q6s qz (.op .no (.mv q3q) q1e .fin))) .ret) .skip)) (.rg (.op .no q2c .loc (.op .no q3r .loc (.op .no qbj .loc (.op .no (.fadr 3 q2x) .loc (.op .no qd .loc (.op .no (.bld [(.mk 0 3 qk), (.mk 3 1 qc)] [(.int .i64 (.ofNat 0)), (.int .i64 (.ofNat 0)), (.int .u8 (.ofNat 0)), (.con (.slice Option.none 0 0))]) .loc q7l))))))))))) q31)))))) (.seq (.rg (.op .no q2c .loc (.op .no (.call (.lit (.clo 161 [])) [qc, (.lit (.clo 162 []))]) .loc .fin))) (.seq (.rg (.op .no q2c .loc (.op .no qf qz q1f))) .ret)))))))
theorem cf81_ok : compF Go.Proofs.Tryz.prog xi81 = some cf81 := by kernel_rfl
noncomputable def xi82 := xiM 82 Go.Proofs.Tryz.f82 7741
theorem xi82_ok : TabOK Go.Proofs.Tryz.prog [xi82] := tabOK1 Go.Proofs.Tryz.func82 (by kernel_rfl) (by kernel_rfl) rfl rfl
noncomputable def cf82 : FnC := (.mk 7741 29 q8s (.seq qbk (.seq (.rg (.op .no q18 .loc (.op .no q3y .loc (.op .no (.gen (.makeSlice 29 (.tmp 7) (.tmp 7)) (rfC 7741 [7, 6])) .loc q29)))) (.seq (.seq qbl (.block 0 (.loop (.seq q8f (.seq q8g (.seq (.block 1 (.seq (.rg (.op .no q4z .loc (.op .no (.ias 4 q1m q2x) .loc (.op .no q73 .loc (.op .no q74 q1e (.op .no q54 qz qbm)))))) (.seq (.rg (.op .no q8w .loc (.op .no q76 .loc (.op .no (.ld 4 true q1g) .loc (.op .no q7f .loc (.op .no (.ias 4 qn qk) .loc q7k)))))) (.rg (.op .no q8w .loc (.op .no q76 .loc (.op .no q79 .loc (.op .no q7b .loc (.op .no qd .loc (.op .no (.call (.lit (.clo 123 [])) [qc]) .loc .fin)))))))))) q8m)))))) q8z))))
theorem cf82_ok : compF Go.Proofs.Tryz.prog xi82 = some cf82 := by kernel_rfl
noncomputable def xi83 := xiM 83 Go.Proofs.Tryz.f83 504369023
theorem xi83_ok : TabOK Go.Proofs.Tryz.prog [xi83] := tabOK1 Go.Proofs.Tryz.func83 (by kernel_rfl) (by kernel_rfl) rfl rfl
noncomputable def cf83 : FnC := (.mk 504369023 40 q6o (.seq q6t (.seq qbn (.seq (.seq qb9 (.cond q2k (.seq (.rg (.op .no q4z .loc (.op .no q6s q1e q2b))) .ret) .skip)) (.seq (.rg (.op .no q3r .loc (.op .no q3y .loc (.op .no (.gen (.makeSlice 98 (.tmp 23) (.tmp 23)) (rfC 504369023 [23, 22])) .loc q3l)))) (.seq (.seq (.rg (.op .no q3r q2l qbb)) (.block 0 (.loop (.seq qbc (.seq (.cond q38 .skip q1n) (.seq (.block 1 (.seq (.rg (.op .no q68 .loc (.op .no (.ias 3 q2p q2s) .loc (.op .no q2u .loc (.op .no q5d q2d (.op .no q54 q26 qbo)))))) (.rg (.op .no q3t .loc (.op .no q5x .loc (.op .no (.ld 3 true q2e) .loc (.op .no (.call (.lit (.clo 163 [])) [qc]) .loc (.op .no q6d .loc (.op .no (.ias 1 qs qn) .loc q6b))))))))) qbe)))))) (.seq (.rg (.op .no q3t .loc qbp)) .ret)))))))
theorem cf83_ok : compF Go.Proofs.Tryz.prog xi83 = some cf83 := by kernel_rfl
noncomputable def xi84 := xiM 84 Go.Proofs.Tryz.f84 983759
theorem xi84_ok : TabOK Go.Proofs.Tryz.prog [xi84] := tabOK1 Go.Proofs.Tryz.func84 (by kernel_rfl) (by kernel_rfl) rfl rfl
noncomputable def cf84 : FnC := (.mk 983759 46 (.one (.cell 3 true q1g)) (.seq (.rg (.op .no q6p qz (.op .no (.alloc 26 [(.int .i64 (.ofNat 0)), (.int .i64 (.ofNat 0)), (.con (.slice Option.none 0 0))]) q1e .fin))) (.seq (.rgd (.op .no q61 .loc (.op .no q60 .loc (.op .no (.hard qbq) .loc (.op .no q1q .loc (.op .no (.softw q1t 1 (.load 23 (.tmp 10)) (rfR 983759 [10, 14, 13, 12] [10])) .loc (.op .no (.soft (.bld [q1c, (.mk 2 1 qk)] [(.int .i64 (.ofNat 0)), (.int .i64 (.ofNat 0)), (.con (.slice Option.none 0 0))])) .loc (.op .no (.alloc 26 [(.int .i64 (.ofNat 0)), (.int .i64 (.ofNat 0)), (.con (.slice Option.none 0 0))] 0) q1l (.op .no (.hard (.st 3 q1m qc)) .non .fin)))))))) 2) (.seq (.seq (.rg (.op .no q19 q2w (.op .no (.len q2x) q33 (.op .no q6 q26 .fin)))) (.block 0 (.loop (.seq (.rg (.op .no (.bin .lss 3 q28 q34) q2d .fin)) (.seq (.cond q2e .skip q1n) (.seq (.block 1 (.seq (.rg (.op .no (.ias 2 q2x q28) .loc (.op .no q1t .loc (.op .no qa6 q2g (.op .no (.st 2 q2h qc) .non .fin))))) (.rgd (.op .no q9j .loc (.op .no (.soft (.fadr 0 q2h)) .loc (.op .no q60 .loc (.op .no qbr .loc (.op .no (.soft qbs) .loc (.op .no (.softw qd 1 (.load 24 (.tmp 22)) (rfR 983759 [22, 31, 30, 29, 28] [22])) .loc (.op .no (.soft (.fadr 0 q2h)) .loc (.op .no (.softw qd 1 (.load 3 (.tmp 24)) (rfR 983759 [24, 23, 22, 31, 30, 29, 28] [24])) .loc (.op .no (.soft (.fadr 1 q2h)) .loc (.op .no (.softw qd 1 (.load 5 (.tmp 26)) (rfR 983759 [26, 25, 24, 23, 22, 31, 30, 29, 28] [26])) .loc (.op .no (.soft (.bld [(.mk 0 1 qk), q1a, (.mk 2 1 qx)] [(.int .i64 (.ofNat 0)), (.int .u8 (.ofNat 0)), (.int .u8 (.ofNat 0))])) .loc (.op .no (.bsl 62 1 3 [qc] 0) .loc (.op .no (.hard (.app 24 62 3 16 qx qc)) .loc (.op .no (.soft qbs) .loc q1w)))))))))))))) 2))) (.rg (.op .no (.bin .add 3 q28 qe) .loc qb1)))))))) (.seq (.rg (.op .no qbs .loc (.op .no qd .loc (.op .no (.call (.lit (.clo 119 [])) [qc, (.lit (.clo 164 []))]) .loc .fin)))) (.seq (.rg (.op .no qbs .loc (.op .no qd .loc (.op .no qbq .loc (.op .no (.call (.lit (.clo 121 [])) [qc]) .loc (.op .no qbs .loc q6b)))))) (.seq (.rg (.op .no (.ld 3 true q1m) .loc q8j)) .ret)))))))
theorem cf84_ok : compF Go.Proofs.Tryz.prog xi84 = some cf84 := by kernel_rfl
noncomputable def xi85 := xiM 85 Go.Proofs.Tryz.f85 2071
theorem xi85_ok : TabOK Go.Proofs.Tryz.prog [xi85] := tabOK1 Go.Proofs.Tryz.func85 (by kernel_rfl) (by kernel_rfl) rfl rfl
noncomputable def cf85 : FnC := (.mk 2071 12 qan (.seq (.rg (.op .no qbt qz .fin)) (.seq (.seq (.rgd (.op .no (.soft qbu) .loc (.op .no qap .loc (.op .no q9i .loc (.op .no q60 .loc (.op .no (.soft q5t) .loc (.op .no q60 .loc (.op .no (.soft (.bin .eql 4 qk qc)) q1e .fin))))))) 0) (.cond q1g (.seq (.rg (.op .no (.mv q41) qz .fin)) .ret) .skip)) (.seq (.rg (.op .no (.mv q3c) qz .fin)) .ret))))
theorem cf85_ok : compF Go.Proofs.Tryz.prog xi85 = some cf85 := by kernel_rfl
noncomputable def xi87 := xiM 87 Go.Proofs.Tryz.f87 134481871
theorem xi87_ok : TabOK Go.Proofs.Tryz.prog [xi87] := tabOK1 Go.Proofs.Tryz.func87 (by kernel_rfl) (by kernel_rfl) rfl rfl
noncomputable def cf87 : FnC := (.mk 134481871 33 q6o (.seq (.rg (.op .no q3 qz qbv)) (.seq (.rg (.op .no qb2 .loc (.op .no q19 .loc (.op .no qbw .loc qbx)))) (.seq (.seq (.rg (.op .no q4z .loc q27)) (.cond q28 (.seq (.rg (.op .no q4z .loc qby)) .ret) .skip)) (.seq (.rg (.op .no qbz .loc (.op .no q8w .loc (.op .no qc0 .loc (.op .no qf .loc (.op .no q22 .loc (.op .no q23 .loc (.op .no q7o q33 (.op .no qbi .non q4y))))))))) (.seq (.seq (.rg (.op .no q4z .loc (.op .no q25 q2d .fin))) (.cond q2e qc1 .skip)) (.seq (.rg (.op .no qb2 .loc (.op .no qbj .loc (.op .no (.call (.lit (.clo 168 [])) [qi, qc]) .loc q7z)))) .ret)))))))
theorem cf87_ok : compF Go.Proofs.Tryz.prog xi87 = some cf87 := by kernel_rfl
noncomputable def xi88 := xiM 88 Go.Proofs.Tryz.f88 9445021196373681520639
theorem xi88_ok : TabOK Go.Proofs.Tryz.prog [xi88] := tabOK1 Go.Proofs.Tryz.func88 (by kernel_rfl) (by kernel_rfl) rfl rfl
noncomputable def cf88 : FnC := (.mk 9445021196373681520639 78 (.many [q6n, q4q, qaw]) (.seq (.rg (.op .no q6p q7 (.op .no q6q qz qax))) (.seq (.seq (.rg (.op .no q6u .loc (.op .no qc2 .loc q4y))) (.seq (.rg (.op .no q4z .loc qc3)) (.cond q2s (.seq (.rg (.op .no q4z .loc qaz)) .ret) .skip))) (.seq (.seq (.rg (.op .no q6v .loc (.op .no qbf .loc q9u))) (.cond q38 (.seq (.rg (.op .no q6s q1e (.op .no q6s q1l (.op .no q11 q2g .fin)))) .ret) .skip)) (.seq (.rg (.op .no q6u .loc (.op .no (.call (.lit (.clo 170 [])) [qc]) .loc qc4))) (.seq (.seq (.rg (.op .no q5x .loc q9y)) (.cond q69 qc5 .skip)) (.seq (.rg (.op .no q3t .loc (.op .no q3y .loc (.op .no (.gen (.makeSlice 87 (.tmp 32) (.tmp 32)) (rfC 9445021196373681520639 [32, 31])) .loc q3o)))) (.seq (.seq (.rg (.op .no q3t q5v qc6)) (.block 0 (.loop (.seq qc7 (.seq (.cond q52 .skip q1n) (.seq (.block 1 (.seq (.rg (.op .no (.mv q4v) .loc (.op .no (.ias 3 q5w q4v) .loc (.op .no q2u .loc (.op .no q5d q2l (.op .no q54 q2j (.op .no (.st 3 q2p qc) .non .fin))))))) (.seq (.rg (.op .no q6g .loc (.op .no q1t .loc (.op .no q3v .loc (.op .no qbw .loc (.op .no qf .loc (.op .no q22 .loc (.op .no q23 .loc (.op .no q7o q2m (.op .no (.st 3 q2o qi) .non q5e)))))))))) (.seq (.seq (.rg (.op .no q3t .loc (.op .no q3v .loc (.op .no (.ld 3 true q2p) .loc (.op .no q6v .loc (.op .no q64 .loc (.op .no qf .loc (.op .no q22 .loc (.op .no q23 .loc (.op .no (.ias 3 q42 qx) .loc (.op .no q65 .non (.op .no q3p q26 .fin)))))))))))) (.seq (.rg (.op .no q5x .loc (.op .no q25 q56 .fin))) (.cond q57 qc5 .skip))) (.seq (.rgd (.op .no qc8 .loc (.op .no qae .loc (.op .no qag .loc (.op .no qad .loc (.op .no qc9 .loc (.op .no qca .loc (.op .no (.soft q3u) .loc (.op .no qae .loc (.op .no (.soft q54) .loc (.op .no q5m .loc (.op .no (.soft (.ias 3 qn qk)) .loc (.op .no (.hard (.st 3 qc qi)) .non (.op .no (.soft (.ext (.s .z) qk)) .loc (.op .no q49 q26 .fin)))))))))))))) 0) (.seq (.rg (.op .no q5x .loc (.op .no q25 q58 .fin))) (.cond q59 qc5 .skip))))))) qcb)))))) (.seq (.rg (.op .no q3t .loc (.op .no q3u .loc qb8))) .ret)))))))))
theorem cf88_ok : compF Go.Proofs.Tryz.prog xi88 = some cf88 := by kernel_rfl
noncomputable def xi89 := xiM 89 Go.Proofs.Tryz.f89 504373101
theorem xi89_ok : TabOK Go.Proofs.Tryz.prog [xi89] := tabOK1 Go.Proofs.Tryz.func89 (by kernel_rfl) (by kernel_rfl) rfl rfl
noncomputable def cf89 : FnC := (.mk 504373101 36 q8s (.seq qbk (.seq q15 (.seq (.seq (.rg (.op .no q18 q2g (.op .no (.len q2h) q2w (.op .no q6 q33 .fin)))) (.block 0 (.loop (.seq (.rg (.op .no (.bin .lss 3 q34 q2x) q26 .fin)) (.seq q9f (.seq (.block 1 (.seq (.rg (.op .no (.ias 1 q2h q34) .loc q8v)) (.seq (.rg (.op .no q8w .loc (.op .no q76 .loc (.op .no q3y .loc (.op .no qcc .loc q29))))) (.seq (.rg (.op .no q8w .loc (.op .no qcd q2d .fin))) (.cond q2e (.rg (.op .no (.gen (.makeInterface 9 (.const (.string (ByteArray.mk (Array.mk [(UInt8.ofNat 108), (UInt8.ofNat 101), (UInt8.ofNat 110), (UInt8.ofNat 32), (UInt8.ofNat 111), (UInt8.ofNat 117), (UInt8.ofNat 116), (UInt8.ofNat 32), (UInt8.ofNat 111), (UInt8.ofNat 102), (UInt8.ofNat 32), (UInt8.ofNat 114), (UInt8.ofNat 97), (UInt8.ofNat 110), (UInt8.ofNat 103), (UInt8.ofNat 101)]))))) (rfC 504373101 [])) .loc (.op .no (.gen (.panic (.tmp 21)) (rfC 504373101 [21])) .non .fin))) .skip))))) (.rg (.op .no (.bin .add 3 q34 qe) .loc q3l)))))))) (.seq (.rg (.op .no q8w .loc (.op .no (.call (.lit (.clo 171 [])) [q6r, qc]) .loc q1y))) (.seq (.seq qbg (.block 2 (.loop (.seq q2r (.seq (.cond q2s .skip q7j) (.seq (.block 3 (.seq (.rg (.op .no (.ias 1 q2k q2o) .loc (.op .no qd .loc q2b))) (.rg (.op .no q1h .loc (.op .no q2c .loc (.op .no qbd .loc q1y)))))) q31)))))) (.seq (.rg (.op .no q1h .loc q8x)) .ret)))))))
theorem cf89_ok : compF Go.Proofs.Tryz.prog xi89 = some cf89 := by kernel_rfl
noncomputable def xi90 := xiM 90 Go.Proofs.Tryz.f90 7
theorem xi90_ok : TabOK Go.Proofs.Tryz.prog [xi90] := tabOK1 Go.Proofs.Tryz.func90 (by kernel_rfl) (by kernel_rfl) rfl rfl
noncomputable def cf90 : FnC := (.mk 7 10 (.one (.cell 4 true q0)) (.seq (.rg (.op .no (.box 92 q2) q4 (.op .no q74 q7 .fin))) (.seq (.rgd (.op .no (.soft q7y) .loc (.op .no q60 .loc (.op .no (.hard qce) .loc (.op .no (.hard qcf) .loc (.op .no (.soft qb) .loc (.op .no (.softw q2u 2 (.load 59 (.tmp 3)) (rfR 7 [3, 8, 7, 6, 5] [3])) .loc (.op .no (.soft (.bld [(.mk 0 3 qc), (.mk 3 1 qk)] [(.int .i64 (.ofNat 0)), (.int .i64 (.ofNat 0)), (.int .u8 (.ofNat 0)), (.con (.slice Option.none 0 0))])) .loc (.op .no (.hard (.st 4 q0 qc)) .non .fin)))))))) 0) .ret)))
theorem cf90_ok : compF Go.Proofs.Tryz.prog xi90 = some cf90 := by kernel_rfl
noncomputable def xi91 := xiM 91 Go.Proofs.Tryz.f91 19
theorem xi91_ok : TabOK Go.Proofs.Tryz.prog [xi91] := tabOK1 Go.Proofs.Tryz.func91 (by kernel_rfl) (by kernel_rfl) rfl rfl
noncomputable def cf91 : FnC := (.mk 19 14 q8c (.seq qcg (.rg (.op .no q18 .loc (.op .no q8w .loc (.op .no q8w .loc (.op .no qch .loc (.op .no qci .loc (.op .no q19 .loc (.op .no (.call qcj [qv, q5, qs, qi, qc]) .loc .fin))))))))))
theorem cf91_ok : compF Go.Proofs.Tryz.prog xi91 = some cf91 := by kernel_rfl
noncomputable def xi92 := xiM 92 Go.Proofs.Tryz.f92 31
theorem xi92_ok : TabOK Go.Proofs.Tryz.prog [xi92] := tabOK1 Go.Proofs.Tryz.func92 (by kernel_rfl) (by kernel_rfl) rfl rfl
noncomputable def cf92 : FnC := (.mk 31 10 qck (.seq (.rg (.op .no (.box 92 q2) q7 (.op .no (.box 92 qa) qz q1f))) (.seq (.rg (.op .no q6g .loc (.op .no q2u .loc (.op .no q1p .loc (.op .no q2u .loc (.op .no qcl .loc q1y)))))) .ret)))
theorem cf92_ok : compF Go.Proofs.Tryz.prog xi92 = some cf92 := by kernel_rfl
noncomputable def xi93 := xiM 93 Go.Proofs.Tryz.f93 31
theorem xi93_ok : TabOK Go.Proofs.Tryz.prog [xi93] := tabOK1 Go.Proofs.Tryz.func93 (by kernel_rfl) (by kernel_rfl) rfl rfl
noncomputable def cf93 : FnC := (.mk 31 24 qck (.seq (.rg (.op .no qcm q7 (.op .no q9c qz q1f))) (.seq (.rg (.op .no qcn .loc (.op .no qd .loc (.op .no qco .loc (.op .no qd .loc (.op .no qcp .loc (.op .no q6g .loc (.op .no qd .loc (.op .no q1p .loc (.op .no qd .loc (.op .no qcp .loc (.op .no (.fadr 2 q0) .loc (.op .no qd .loc (.op .no (.gen (.convert 5 3 (.tmp 16)) (rfC 31 [16, 15, 14, 13, 12, 11, 10, 9, 8, 7, 6, 5])) .loc (.op .no q5g .loc (.op .no qd .loc (.op .no (.gen (.convert 5 3 (.tmp 19)) (rfC 31 [19, 18, 17, 16, 15, 14, 13, 12, 11, 10, 9, 8, 7, 6, 5])) .loc (.op .no qcq .loc (.op .no (.bsl 46 3 2 [qcr, q42, qc]) .loc (.op .no (.call (.lit (.clo 175 [])) [qc]) .loc q1y)))))))))))))))))))) .ret)))
theorem cf93_ok : compF Go.Proofs.Tryz.prog xi93 = some cf93 := by kernel_rfl
noncomputable def xi94 := xiM 94 Go.Proofs.Tryz.f94 5
theorem xi94_ok : TabOK Go.Proofs.Tryz.prog [xi94] := tabOK1 Go.Proofs.Tryz.func94 (by kernel_rfl) (by kernel_rfl) rfl rfl
noncomputable def cf94 : FnC := (.mk 5 9 q8s (.seq qbk (.seq (.rg (.op .no q18 .loc (.op .no q18 .loc (.op .no q3y .loc (.op .no q18 .loc (.op .no q3y .loc (.op .no (.gen (.slice 29 (.tmp 3) Option.none (Option.some (.tmp 5)) (Option.some (.tmp 7))) (rfC 5 [7, 6, 5, 4, 3])) .loc q8x))))))) .ret)))
theorem cf94_ok : compF Go.Proofs.Tryz.prog xi94 = some cf94 := by kernel_rfl
noncomputable def xi95 := xiM 95 Go.Proofs.Tryz.f95 21
theorem xi95_ok : TabOK Go.Proofs.Tryz.prog [xi95] := tabOK1 Go.Proofs.Tryz.func95 (by kernel_rfl) (by kernel_rfl) rfl rfl
noncomputable def cf95 : FnC := (.mk 21 8 q8s (.seq qbk (.seq (.seq (.rg (.op .no q18 .loc (.op .no (.bin .eql 29 qc q6r) q7 .fin))) qcs) (.seq (.rg (.op .no (.bsl 92 0 4 []) .loc (.op .no q18 .loc (.op .no qbd .loc q8x)))) .ret))))
theorem cf95_ok : compF Go.Proofs.Tryz.prog xi95 = some cf95 := by kernel_rfl
end
end Go.Proofs.YteodgliliglipaaGreatDoor.V.I
namespace Go.Proofs.YteodgliliglipaaGreatDoor.V.I
open Go
noncomputable section
set_option maxRecDepth 100000
noncomputable def xi97 := xiM 97 Go.Proofs.Tryz.f97 1216944609464568979304416360791007
theorem xi97_ok : TabOK Go.Proofs.Tryz.prog [xi97] := tabOK1 Go.Proofs.Tryz.func97 (by kernel_rfl) (by kernel_rfl) rfl rfl
noncomputable def cf97 : FnC := (.mk 1216944609464568979304416360791007 126 qct (.seq (.rg (.op .no q6p qz (.op .no q6q q1e (.op .no q6s q1l q82)))) (.seq (.seq (.rg (.op .no q6v .loc (.op .no q8k .loc (.op .no q8w .loc (.op .no (.call (.lit (.clo 177 [])) [qk, qi, qc]) .loc q4y))))) (.seq (.rg (.op .no q4z .loc qa1)) (.cond q5w (.seq (.rg (.op .no q4z .loc (.op .no q6s q1l q3j))) .ret) .skip))) (.seq (.rgd (.op .no q1q .loc (.op .no q1u .loc (.op .no (.hard qcu) .loc (.op .no (.softw q6v 1 (.load 26 (.tmp 3)) (rfR 1216944609464568979304416360791007 [29, 28, 27] [3])) .loc (.op .no (.mk (.makeSlice 50 (.tmp 29) (.tmp 29)) (rfR 1216944609464568979304416360791007 [26, 29, 28, 27] [29, 29]) 0 0) .loc (.op .no (.mk (.makeMap 278 Option.none) (rfR 1216944609464568979304416360791007 [30, 26, 29, 28, 27] []) 2 0) .loc (.op .no (.soft (.bld [(.mk 0 3 qk), (.mk 5 1 qi), (.mk 6 1 qc)] [(.int .i64 (.ofNat 0)), (.int .i64 (.ofNat 0)), (.con (.slice Option.none 0 0)), (.con (.slice Option.none 0 0)), (.con (.slice Option.none 0 0)), (.con (.slice Option.none 0 0)), (.con (.map Option.none)), (.con (.slice Option.none 0 0))])) .loc (.op .no (.box 281 qc 4) .loc (.op .no q49 q33 .fin))))))))) 6) (.seq (.rg (.op .no q3t .loc (.op .no q6v .loc (.op .no q8k .loc (.op .no (.call (.lit (.clo 113 [])) [qi, qc]) .loc (.op .no qf .loc (.op .no q22 .loc (.op .no q23 .loc (.op .no (.nilc qx) .loc (.op .no q7b .loc qcv)))))))))) (.seq (.rg (.op .no q3t .loc (.op .no q6v .loc (.op .no q8k .loc (.op .no qcw .loc (.op .no qf .loc (.op .no q22 .loc (.op .no q23 .loc (.op .no (.nilc qx) .loc (.op .no (.fadr 4 qc) .loc qcv)))))))))) (.seq (.seq (.rg (.op .no q8w q6j qa2)) (.block 0 (.loop (.seq qa4 (.seq qa5 (.seq (.block 1 (.seq (.rg (.op .no (.ias 4 q6k q52) .loc qcx)) (.seq (.rg (.op .no (.fadr 3 q28) .loc (.op .no qd q58 (.op .no (.len q59) q5i (.op .no q6 q5p .fin))))) (.block 2 (.loop (.seq (.rg (.op .no (.bin .lss 3 q5q q5j) q62 .fin)) (.seq (.cond q63 .skip q7j) (.seq (.block 3 (.seq (.rg (.op .no (.mv q5q) .loc (.op .no (.ias 1 q59 q5q) .loc (.op .no qd .loc (.op .no q54 q2d q7g))))) (.rg (.op .no q3t .loc (.op .no qcy .loc (.op .no (.fadr 5 qc) .loc (.op .no qd .loc (.op .no q3v .loc (.op .no q3u .loc (.op .no (.ias 1 qk qi) .loc q6b)))))))))) (.rg (.op .no (.bin .add 3 q5q qe) .loc (.op .no qf q5p .fin))))))))))) qai)))))) (.seq (.seq (.rg (.op .no q3t .loc (.op .no qcy .loc (.op .no (.fadr 5 qc) .loc (.op .no qd .loc (.op .no q3y q66 (.op .no q6 q6e .fin))))))) (.block 4 (.loop (.seq (.rg (.op .no (.bin .lss 3 q6f q67) q6l .fin)) (.seq (.cond q6m .skip qcz) (.seq (.block 5 (.seq (.rg (.op .no (.mv q6f) .loc qd0)) (.seq (.rg (.op .no qbt qb6 .fin)) (.block 6 (.loop (.seq (.rg (.op .no (.bin .lss 5 qb7 q3m) (.kep (.r (.r q2f))) .fin)) (.seq (.cond (.kep (.r (.r q2f))) .skip qd1) (.seq (.block 7 (.seq (.rg (.op .no (.mv qb7) .loc q30)) (.rg (.op .no q3t .loc (.op .no q3x .loc (.op .no q4h .loc (.op .no (.call (.lit (.clo 179 [])) [qk, qi, qc]) .loc .fin))))))) (.rg (.op .no (.bin .add 5 qb7 q3c) .loc (.op .no qf qb6 .fin))))))))))) (.rg (.op .no (.bin .add 3 q6f qe) .loc (.op .no qf q6e .fin))))))))) (.seq (.rg (.op .no q3t .loc (.op .no qcy .loc (.op .no qd2 .loc (.op .no qd .loc (.op .no (.call (.lit (.clo 180 [])) [qc, (.lit (.clo 181 []))]) .loc .fin)))))) (.seq (.rg (.op .no q3t .loc (.op .no qcy .loc (.op .no qd2 .loc (.op .no qd .loc (.op .no q3y .loc (.op .no (.gen (.makeSlice 99 (.tmp 101) (.tmp 101)) (rfC 1216944609464568979304416360791007 [101, 100, 99, 98, 97])) .loc qah))))))) (.seq (.seq (.rg (.op .no q3t .loc (.op .no qcy .loc (.op .no qd2 .loc (.op .no qd (.kep (.l q36)) (.op .no (.len qd3) (.kep (.r q36)) (.op .no q6 qd4 .fin))))))) (.block 8 (.loop (.seq (.rg (.op .no (.bin .lss 3 qd5 qd6) qd7 .fin)) (.seq (.cond qd8 .skip (.exit 8)) (.seq (.block 9 (.seq (.rg (.op .no (.mv qd5) .loc (.op .no (.ias 6 qd3 qd5) .loc (.op .no (.ld 6 true qc) .loc (.op .no qd9 q5o (.op .no q54 q37 (.op .no (.st 6 q69 qc) .non .fin))))))) (.rgd (.op .no qc8 .loc (.op .no qc8 .loc (.op .no qda .loc (.op .no qdb .loc (.op .no q60 .loc (.op .no (.soft (.ld 6 true q69)) .loc (.op .no (.soft (.gen (.lookup 278 (.tmp 119) (.tmp 120) false) (rfR 1216944609464568979304416360791007 [120, 119, 118, 117, 116, 115] [119, 120]))) .loc (.op .no (.hard (.call (.lit (.clo 182 [])) [qx, qc])) .loc (.op .no (.soft q68) .loc (.op .no q5k .loc (.op .no (.soft (.ias 9 qi qc)) .loc (.op .no (.hard (.st 9 qc qn)) .non .fin)))))))))))) 0))) (.rg (.op .no (.bin .add 3 qd5 qe) .loc (.op .no qf qd4 .fin))))))))) (.seq (.rg (.op .no q68 .loc (.op .no qf q1l q82))) .ret))))))))))))
theorem cf97_ok : compF Go.Proofs.Tryz.prog xi97 = some cf97 := by kernel_rfl
noncomputable def xi98 := xiM 98 Go.Proofs.Tryz.f98 52614059267903853659931206712331753740954083622903
theorem xi98_ok : TabOK Go.Proofs.Tryz.prog [xi98] := tabOK1 Go.Proofs.Tryz.func98 (by kernel_rfl) (by kernel_rfl) rfl rfl
noncomputable def cf98 : FnC := (.mk 52614059267903853659931206712331753740954083622903 166 qan (.seq (.rg (.op .no (.box 183 q2) q7 q7x)) (.seq (.rg (.op .no (.alloc 288 [(.con (.slice Option.none 0 0)), (.con (.slice Option.none 0 0))]) q1e .fin)) (.seq (.rg (.op .no q39 q1l .fin)) (.seq (.seq (.rg (.op .no q6g .loc (.op .no q2u .loc (.op .no q5t .loc (.op .no q2u .loc (.op .no (.bsl 59 2 3 [qk, qc]) q6j qa2)))))) (.block 0 (.loop (.seq qa4 (.seq qa5 (.seq (.block 1 (.seq (.rg (.op .no (.mv q52) .loc (.op .no (.ias 3 q6k q52) .loc (.op .no q2u .loc (.op .no q7o q2w (.op .no q54 q2g q2y)))))) (.seq (.rg (.op .no q19 .loc (.op .no (.ld 3 true q2x) .loc (.op .no (.call (.lit (.clo 183 [])) [qi, qc]) .loc q3l)))) (.seq (.rg (.op .no (.ld 9 true q0) .loc (.op .no q3r .loc (.op .no (.gen (.convert 3 5 (.tmp 37)) (rfC 52614059267903853659931206712331753740954083622903 [37, 36])) .loc (.op .no q3t .loc (.op .no (.call (.lit (.clo 184 [])) [qn, qi, qc]) .loc (.op .no qf .loc (.op .no q22 .loc (.op .no q23 .loc (.op .no q53 .loc (.op .no q54 q26 (.op .no q3p q2d q7g)))))))))))) (.seq (.seq (.rg (.op .no q3v .loc (.op .no q6d .loc (.op .no qf .loc (.op qg (.fadr 7 q0) .loc (.op qj qd .loc (.op ql (.call (.lit (.clo 185 [])) [qc, (.lit (.clo 186 []))]) .loc (.op .no qp q58 .fin)))))))) (.cond q59 qdc .skip)) (.seq (.rg (.op .no q3r .loc (.op .no q3u .loc (.op .no (.iaa 2 1 q1g qi) .loc q6b)))) (.seq .skip (.seq (.rg (.op .no q5x q5i qdd)) (.block 2 (.loop (.seq qde (.seq (.cond q67 .skip q7j) (.seq (.block 3 (.seq (.rg (.op .no (.mv q63) .loc (.op .no (.ias 2 q5j q63) .loc (.op .no q1t .loc (.op .no qdf q2m (.op .no q54 q2l (.op .no (.st 2 q2o qc) .non .fin))))))) (.seq (.seq (.rg (.op .no q3u q6e (.op .no (.len q6f) q6l (.op .no q6 qb6 .fin)))) (.block 4 (.loop (.seq (.rg (.op .no (.bin .lss 3 qb7 q6m) (.kep (.r (.r q2f))) .fin)) (.seq (.cond (.kep (.r (.r q2f))) .skip qcz) (.seq (.block 5 (.seq (.rg (.op .no (.ias 1 q6f qb7) .loc (.op .no qd .loc qah))) (.seq (.rg (.op .no q68 .loc (.op .no qdg .loc (.op .no qd .loc (.op .no (.bin .gtr 3 qk qc) .loc (.op .no qf .loc (.op q4g q68 .loc (.op q4i qdh .loc (.op q4j qd .loc (.op q4l q9e .loc (.op .no (.pick qs qc q35) (.kep (.l q36)) .fin))))))))))) (.cond qd3 (.seq qdi q7j) .skip)))) (.rg (.op .no (.bin .add 3 qb7 qe) .loc (.op .no qf qb6 .fin))))))))) (.seq (.rg (.op .no q5x .loc (.op .no q3x .loc (.op .no (.gen (.slice 289 (.tmp 78) Option.none (Option.some (.tmp 79)) Option.none) (rfC 52614059267903853659931206712331753740954083622903 [79, 78])) (.kep (.r q36)) (.op .no (.len qd6) qd4 (.op .no q6 qd7 .fin)))))) (.block 6 (.loop (.seq (.rg (.op .no (.bin .lss 3 qd8 qd5) (.kep (.l q5u)) .fin)) (.seq (.cond (.kep (.l q5u)) .skip qd1) (.seq (.block 7 (.seq (.rg (.op .no (.ias 2 qd6 qd8) .loc (.op .no q1t .loc (.op .no qdf q37 (.op .no (.st 2 q38 qc) .non .fin))))) (.seq (.rg (.op .no qdg .loc (.op .no qd .loc (.op .no qdj .loc (.op .no qd .loc (.op .no q9e .loc (.op .no qf .loc (.op q4g qdj .loc (.op q4i qd .loc (.op q4j qdh .loc (.op q4l qd .loc (.op q4m q9e .loc (.op .no q4n .loc (.op .no qf .loc (.op q4g qdh .loc (.op q4i qd .loc (.op q4j qdk .loc (.op q4l qd .loc (.op q4m q9e .loc (.op .no q4n .loc (.op .no qf .loc (.op qg qdj .loc (.op qj qd .loc (.op ql qdg .loc (.op qr qd .loc (.op qt q9e .loc (.op qw qf .loc (.op q4g qdg .loc (.op q4i qd .loc (.op q4j qdk .loc (.op q4l qd .loc (.op q4m q9e .loc (.op (.yes q8q false) q4n .loc (.op (.yes qcr false) qf .loc (.op q4g qdk .loc (.op q4i qd .loc (.op q4j qdh .loc (.op q4l qd .loc (.op q4m q9e .loc (.op (.yes (.loc qdm) false) q4n .loc (.op .no (.pick (.loc (.s qdm)) qo qc) (.kep (.r q5u)) .fin))))))))))))))))))))))))))))))))))))))))) (.cond (.kep (.r q5u)) (.seq qdi q7j) .skip)))) (.rg (.op .no (.bin .add 3 qd8 qe) .loc (.op .no qf qd7 .fin)))))))))))) qdn))))))))))))) qai)))))) (.seq (.seq (.rg (.op .no (.iaa 2 1 q1g q5) .loc (.op .no qd .loc (.op .no q3y (.kep (.l q6i)) (.op .no q6 (.kep (.r q6i)) .fin))))) (.block 8 (.loop (.seq (.rg (.op .no (.bin .lss 3 qdo (.kep (.l q6i))) (.kep (.l q4t)) .fin)) (.seq (.cond (.kep (.l q4t)) .skip (.exit 8)) (.seq (.block 9 (.seq (.rg (.op .no (.mv qdo) .loc (.op .no qf q5o .fin))) (.seq (.rg (.op .no q6a (.kep (.r q4t)) (.op .no q6 (.kep (.l q50)) .fin))) (.block 10 (.loop (.seq (.rg (.op .no (.bin .lss 3 qdp (.kep (.r q4t))) (.kep (.r q50)) .fin)) (.seq (.cond (.kep (.r q50)) .skip (.exit 10)) (.seq (.block 11 (.seq (.rg (.op .no (.mv qdp) .loc (.op .no qf q5v .fin))) (.seq (.rgd (.op .no qdq .loc (.op .no q60 .loc (.op .no (.soft q6a) .loc (.op .no q9i .loc (.op .no q60 .loc (.op .no qdq .loc (.op .no q60 .loc (.op .no (.soft (.mv q5w)) .loc (.op .no q9i .loc (.op .no q60 .loc (.op .no qds .loc (.op .no (.softw (.iaa 2 1 q1g qe) 1 (.indexAddr 288 (.tmp 5) (.const (.int .i64 (.ofNat 1)))) (rfR 52614059267903853659931206712331753740954083622903 [149, 148, 147, 146, 145, 144, 143, 142, 141, 140, 139] [5])) .loc (.op .no (.softw qd 1 (.load 50 (.tmp 150)) (rfR 52614059267903853659931206712331753740954083622903 [150, 149, 148, 147, 146, 145, 144, 143, 142, 141, 140, 139] [150])) .loc (.op .no (.soft q6a) .loc (.op .no (.softw q9h 1 (.indexAddr 50 (.tmp 151) (.tmp 152)) (rfR 52614059267903853659931206712331753740954083622903 [152, 151, 150, 149, 148, 147, 146, 145, 144, 143, 142, 141, 140, 139] [151, 152])) .loc (.op .no (.softw qd 1 (.load 3 (.tmp 153)) (rfR 52614059267903853659931206712331753740954083622903 [153, 152, 151, 150, 149, 148, 147, 146, 145, 144, 143, 142, 141, 140, 139] [153])) .loc (.op .no (.softw (.iaa 2 1 q1g qe) 1 (.indexAddr 288 (.tmp 5) (.const (.int .i64 (.ofNat 1)))) (rfR 52614059267903853659931206712331753740954083622903 [154, 153, 152, 151, 150, 149, 148, 147, 146, 145, 144, 143, 142, 141, 140, 139] [5])) .loc (.op .no (.softw qd 1 (.load 50 (.tmp 155)) (rfR 52614059267903853659931206712331753740954083622903 [155, 154, 153, 152, 151, 150, 149, 148, 147, 146, 145, 144, 143, 142, 141, 140, 139] [155])) .loc (.op .no (.soft (.mv q5w)) .loc (.op .no (.softw q9h 1 (.indexAddr 50 (.tmp 156) (.tmp 157)) (rfR 52614059267903853659931206712331753740954083622903 [157, 156, 155, 154, 153, 152, 151, 150, 149, 148, 147, 146, 145, 144, 143, 142, 141, 140, 139] [156, 157])) .loc (.op .no (.softw qd 1 (.load 3 (.tmp 158)) (rfR 52614059267903853659931206712331753740954083622903 [158, 157, 156, 155, 154, 153, 152, 151, 150, 149, 148, 147, 146, 145, 144, 143, 142, 141, 140, 139] [158])) .loc (.op .no qds .loc (.op .no (.soft (.bin .mul 3 q8q qc)) .loc (.op .no qdt (.kep (.l q55)) .fin)))))))))))))))))))))))) 0) (.cond (.kep (.l q55)) qdi .skip)))) (.rg (.op .no (.bin .add 3 qdp qe) .loc (.op .no qf (.kep (.l q50)) .fin))))))))))) (.rg (.op .no (.bin .add 3 qdo qe) .loc (.op .no qf (.kep (.r q6i)) .fin))))))))) (.seq (.seq (.rg (.op .no q2c (.kep (.r q55)) .fin)) (.cond (.kep (.r q55)) (.seq (.rg (.op .no (.mv q8a) qz .fin)) .ret) .skip)) (.seq (.rg q7x) .ret))))))))
theorem cf98_ok : compF Go.Proofs.Tryz.prog xi98 = some cf98 := by kernel_rfl
noncomputable def xi99 := xiM 99 Go.Proofs.Tryz.f99 68722623487
theorem xi99_ok : TabOK Go.Proofs.Tryz.prog [xi99] := tabOK1 Go.Proofs.Tryz.func99 (by kernel_rfl) (by kernel_rfl) rfl rfl
noncomputable def cf99 : FnC := (.mk 68722623487 42 (.one qdu) (.seq (.rg (.op .no q3 q7 (.op .no (.box 186 qa) qz (.op .no qa6 q1e .fin)))) (.seq (.rgd (.op .no qdv .loc (.op .no q60 .loc (.op .no q61 .loc (.op .no q60 .loc (.op .no (.soft (.gen (.call (Call.mk (Callee.builtin Builtin.min) (Array.mk [(.tmp 11), (.tmp 13)]) (Array.mk [3, 3]))) (rfR 68722623487 [13, 12, 11, 10] [11, 13]))) .loc (.op .no qdv .loc (.op .no q60 .loc (.op .no q61 .loc (.op .no q60 .loc (.op .no (.soft (.gen (.call (Call.mk (Callee.builtin Builtin.max) (Array.mk [(.tmp 16), (.tmp 18)]) (Array.mk [3, 3]))) (rfR 68722623487 [18, 17, 16, 15, 14, 13, 12, 11, 10] [16, 18]))) .loc (.op .no (.soft (.mv qv)) q1l (.op .no q49 q2g .fin)))))))))))) 0) (.seq (.seq qdw (.block 0 (.loop (.seq qdx (.seq (.cond q2k .skip q1n) (.seq (.block 1 (.seq (.rg (.op .no q3u .loc q4y)) (.seq (.rg (.op .no q3f .loc (.op .no q2c .loc (.op .no q4z .loc (.op .no qdy .loc qc4))))) (.seq (.rg (.op .no q5x .loc (.op .no q4f .loc (.op .no qf .loc (.op q4g q3t .loc (.op q4i q3r .loc (.op q4j (.bin .eql 3 qi qc) .loc (.op .no q4k q2l .fin)))))))) (.cond q2p (.seq (.rg (.op .no q2c .loc (.op .no q4z .loc (.op .no qdz .loc qe0)))) .ret) .skip))))) qe1)))))) (.seq (.rg (.op .no qe2 .loc qe0)) .ret)))))
theorem cf99_ok : compF Go.Proofs.Tryz.prog xi99 = some cf99 := by kernel_rfl
noncomputable def xi100 := xiM 100 Go.Proofs.Tryz.f100 1055
theorem xi100_ok : TabOK Go.Proofs.Tryz.prog [xi100] := tabOK1 Go.Proofs.Tryz.func100 (by kernel_rfl) (by kernel_rfl) rfl rfl
noncomputable def cf100 : FnC := (.mk 1055 11 qck (.seq (.rg (.op .no (.box 101 q2) q7 (.op .no (.box 186 qa) qz (.op .no qbt q1e .fin)))) (.seq (.seq (.rg (.op .no (.fadr 7 q0) .loc (.op .no qd .loc (.op .no q5g .loc (.op .no qd .loc (.op .no qb3 .loc (.op .no qd q1l .fin))))))) (.cond q1m (.seq (.rg (.op .no (.mv q3c) q1e .fin)) .ret) .skip)) (.seq (.rg (.op .no (.mv q41) q1e .fin)) .ret))))
theorem cf100_ok : compF Go.Proofs.Tryz.prog xi100 = some cf100 := by kernel_rfl
noncomputable def xi101 := xiM 101 Go.Proofs.Tryz.f101 5
theorem xi101_ok : TabOK Go.Proofs.Tryz.prog [xi101] := tabOK1 Go.Proofs.Tryz.func101 (by kernel_rfl) (by kernel_rfl) rfl rfl
noncomputable def cf101 : FnC := (.mk 5 6 q8s (.seq qe3 (.seq (.rg (.op .no q18 .loc (.op .no q18 .loc (.op .no (.bin .neq 41 qi qc) .loc q8x)))) .ret)))
theorem cf101_ok : compF Go.Proofs.Tryz.prog xi101 = some cf101 := by kernel_rfl
noncomputable def xi102 := xiM 102 Go.Proofs.Tryz.f102 5
theorem xi102_ok : TabOK Go.Proofs.Tryz.prog [xi102] := tabOK1 Go.Proofs.Tryz.func102 (by kernel_rfl) (by kernel_rfl) rfl rfl
noncomputable def cf102 : FnC := (.mk 5 6 q8s (.seq qe3 (.seq (.rg (.op .no q18 .loc (.op .no q18 .loc (.op .no (.bin .neq 3 qi qc) .loc q8x)))) .ret)))
theorem cf102_ok : compF Go.Proofs.Tryz.prog xi102 = some cf102 := by kernel_rfl
noncomputable def xi103 := xiM 103 Go.Proofs.Tryz.f103 5
theorem xi103_ok : TabOK Go.Proofs.Tryz.prog [xi103] := tabOK1 Go.Proofs.Tryz.func103 (by kernel_rfl) (by kernel_rfl) rfl rfl
noncomputable def cf103 : FnC := (.mk 5 6 q8s (.seq qe3 (.seq (.rg (.op .no q18 .loc (.op .no q18 .loc (.op .no (.bin .neq 5 qi qc) .loc q8x)))) .ret)))
theorem cf103_ok : compF Go.Proofs.Tryz.prog xi103 = some cf103 := by kernel_rfl
noncomputable def xi104 := xiM 104 Go.Proofs.Tryz.f104 17535
theorem xi104_ok : TabOK Go.Proofs.Tryz.prog [xi104] := tabOK1 Go.Proofs.Tryz.func104 (by kernel_rfl) (by kernel_rfl) rfl rfl
noncomputable def cf104 : FnC := (.mk 17535 21 q9s (.seq (.rg (.op .no q3 q4 q9t)) (.seq (.seq (.rg (.op .no qak .loc (.op .no qe4 .loc q1y))) (.seq (.rg (.op .no q1h .loc q80)) (.cond q2x q9v .skip))) (.seq (.rg (.op .no (.alloc 154 [(.con (.slice Option.none 0 0))]) q1l .fin)) (.seq (.seq (.rg (.op .no qak .loc (.op .no (.call (.lit (.clo 187 [])) [qc]) .loc .fin))) (.block 0 .bad)) (.seq (.rg (.op .no qe5 .loc (.op .no (.call (.lit (.clo 188 [])) [qc]) .loc qaj))) .ret))))))
theorem cf104_ok : compF Go.Proofs.Tryz.prog xi104 = some cf104 := by kernel_rfl
noncomputable def xi105 := xiM 105 Go.Proofs.Tryz.f105 67112655
theorem xi105_ok : TabOK Go.Proofs.Tryz.prog [xi105] := tabOK1 Go.Proofs.Tryz.func105 (by kernel_rfl) (by kernel_rfl) rfl rfl
noncomputable def cf105 : FnC := (.mk 67112655 34 q6o (.seq (.rg (.op .no q6p qz (.op .no qbt q1e q4r))) (.seq (.rg (.op .no q6v .loc (.op .no q19 .loc (.op .no q8w .loc (.op .no (.call (.lit (.clo 189 [])) [qk, qi, qc]) .loc (.op .no qf .loc (.op .no q22 .loc (.op .no q23 .loc (.op .no q53 .loc (.op .no (.ext qm qn) .loc (.op .no qa6 .loc (.op .no (.st 2 qc qs) .non (.op .no (.mv qn) q2g (.op .no q54 q2w (.op .no q3p q33 .fin))))))))))))))) (.seq (.seq (.rg (.op .no q3t .loc (.op .no q25 .loc (.op .no qf .loc (.op qg q4z .loc (.op qj q6d .loc (.op .no q3s q26 .fin))))))) (.cond q28 (.seq (.rg (.op .no q3t .loc (.op .no qbt q1e q2b))) .ret) .skip)) (.seq (.rg (.op .no q5g .loc (.op .no qd .loc (.op .no q3r .loc (.op .no qaf .loc (.op .no q2i .loc (.op .no qd .loc qbp))))))) .ret)))))
theorem cf105_ok : compF Go.Proofs.Tryz.prog xi105 = some cf105 := by kernel_rfl
noncomputable def xi106 := xiM 106 Go.Proofs.Tryz.f106 4295426559
theorem xi106_ok : TabOK Go.Proofs.Tryz.prog [xi106] := tabOK1 Go.Proofs.Tryz.func106 (by kernel_rfl) (by kernel_rfl) rfl rfl
noncomputable def cf106 : FnC := (.mk 4295426559 35 q6o (.seq (.rg (.op .no qcm q7 (.op .no q9c qz (.op .no qbt q1e q4r)))) (.seq (.seq (.rg (.op .no q6u .loc (.op .no qe6 .loc (.op .no q25 .loc (.op .no qf .loc (.op qg q6v .loc (.op qj qe6 .loc qe7))))))) (.cond q28 (.seq (.rg (.op .no qbt q1e q9l)) .ret) .skip)) (.seq (.seq qdw (.block 0 (.loop (.seq qdx (.seq (.cond q2k .skip q1n) (.seq (.block 1 (.seq (.rg (.op .no q3u .loc q3j)) (.seq (.rg (.op .no q6u .loc (.op .no q3r .loc (.op .no qc0 .loc (.op .no qf .loc (.op .no q22 .loc (.op .no q23 .loc (.op .no q7o q2w (.op .no (.st 3 q2x qi) .non q3l))))))))) (.seq (.rg (.op .no q3t .loc (.op .no q4f .loc (.op .no qf .loc (.op q4g (.ld 3 true q2x) .loc (.op q4i q6v .loc (.op q4j qaq .loc (.op .no q4k q2l .fin)))))))) (.cond q2p (.seq (.rg (.op .no q3r .loc qbp)) .ret) .skip))))) qe1)))))) (.seq (.rg (.op .no qbt q1e q5b)) .ret)))))
theorem cf106_ok : compF Go.Proofs.Tryz.prog xi106 = some cf106 := by kernel_rfl
noncomputable def xi108 := xiM 108 Go.Proofs.Tryz.f108 19
theorem xi108_ok : TabOK Go.Proofs.Tryz.prog [xi108] := tabOK1 Go.Proofs.Tryz.func108 (by kernel_rfl) (by kernel_rfl) rfl rfl
noncomputable def cf108 : FnC := (.mk 19 14 q8c (.seq qcg (.rg (.op .no q18 .loc (.op .no q8w .loc (.op .no q8w .loc (.op .no qch .loc (.op .no qci .loc (.op .no q19 .loc (.op .no (.call qe8 [qv, q5, qs, qi, qc]) .loc .fin))))))))))
theorem cf108_ok : compF Go.Proofs.Tryz.prog xi108 = some cf108 := by kernel_rfl
noncomputable def xi109 := xiM 109 Go.Proofs.Tryz.f109 31
theorem xi109_ok : TabOK Go.Proofs.Tryz.prog [xi109] := tabOK1 Go.Proofs.Tryz.func109 (by kernel_rfl) (by kernel_rfl) rfl rfl
noncomputable def cf109 : FnC := (.mk 31 17 qck (.seq (.rg (.op .no q9m q7 (.op .no (.box 43 qa) qz q1f))) (.seq (.rgd (.op .no q7r .loc (.op .no q60 .loc (.op .no q1q .loc (.op .no q60 .loc (.op .no (.hard (.call (.lit (.clo 44 [])) [qk, qc])) .loc (.op .no (.soft qcn) .loc (.op .no (.softw qd 1 (.load 3 (.tmp 10)) (rfR 31 [10, 9, 8, 7, 6, 5] [10])) .loc (.op .no qdv .loc (.op .no (.softw qd 1 (.load 3 (.tmp 12)) (rfR 31 [12, 11, 10, 9, 8, 7, 6, 5] [12])) .loc (.op .no qe9 .loc qeb)))))))))) 2) .ret)))
theorem cf109_ok : compF Go.Proofs.Tryz.prog xi109 = some cf109 := by kernel_rfl
noncomputable def xi110 := xiM 110 Go.Proofs.Tryz.f110 5
theorem xi110_ok : TabOK Go.Proofs.Tryz.prog [xi110] := tabOK1 Go.Proofs.Tryz.func110 (by kernel_rfl) (by kernel_rfl) rfl rfl
noncomputable def cf110 : FnC := (.mk 5 9 q8s (.seq qbk (.seq (.rg (.op .no q18 .loc (.op .no q18 .loc (.op .no q3y .loc (.op .no q18 .loc (.op .no q3y .loc (.op .no (.gen (.slice 116 (.tmp 3) Option.none (Option.some (.tmp 5)) (Option.some (.tmp 7))) (rfC 5 [7, 6, 5, 4, 3])) .loc q8x))))))) .ret)))
theorem cf110_ok : compF Go.Proofs.Tryz.prog xi110 = some cf110 := by kernel_rfl
noncomputable def xi111 := xiM 111 Go.Proofs.Tryz.f111 21
theorem xi111_ok : TabOK Go.Proofs.Tryz.prog [xi111] := tabOK1 Go.Proofs.Tryz.func111 (by kernel_rfl) (by kernel_rfl) rfl rfl
noncomputable def cf111 : FnC := (.mk 21 8 q8s (.seq qbk (.seq (.seq (.rg (.op .no q18 .loc (.op .no (.bin .eql 116 qc q6r) q7 .fin))) qcs) (.seq (.rg (.op .no (.bsl 43 0 2 []) .loc (.op .no q18 .loc (.op .no (.app 116 43 2 16 qi qc) .loc q8x)))) .ret))))
theorem cf111_ok : compF Go.Proofs.Tryz.prog xi111 = some cf111 := by kernel_rfl
noncomputable def xi112 := xiM 112 Go.Proofs.Tryz.f112 17596514574653
theorem xi112_ok : TabOK Go.Proofs.Tryz.prog [xi112] := tabOK1 Go.Proofs.Tryz.func112 (by kernel_rfl) (by kernel_rfl) rfl rfl
noncomputable def cf112 : FnC := (.mk 17596514574653 61 q8s (.seq qbk (.seq (.seq (.rg (.op .no q18 .loc (.op .no q3y .loc (.op .no (.bin .lss 3 qc q3b) q1l .fin)))) (.cond q1m qec .skip)) (.seq (.seq q12 (.block 0 (.loop (.seq (.seq (.rg (.op .no q8w .loc (.op .no q18 .loc (.op .no q3y .loc (.op .no q9e q2g .fin))))) qed) (.seq (.block 1 (.seq (.rgd (.op .no qap .loc (.op .no q9j .loc (.op .no qee .loc (.op .no q1u .loc (.op .no qap .loc (.op .no q9j .loc (.op .no qeg .loc (.op .no qeh .loc (.op .no q1u .loc (.op .no (.soft (.bin .eql 43 qv qc)) q2w .fin)))))))))) 0) (.cond q2x (.seq (.rg (.op .no q18 .loc (.op .no q8w .loc (.op .no (.gen (.slice 116 (.tmp 26) (Option.some (.tmp 27)) Option.none Option.none) (rfC 17596514574653 [27, 26])) .loc q70)))) (.seq (.seq qei (.block 2 (.loop (.seq (.seq (.rg (.op .no q1h .loc (.op .no q76 .loc (.op .no q3y .loc (.op .no q9e q33 .fin))))) qej) (.seq (.block 3 (.seq (.rgd (.op .no qek .loc (.op .no q1v .loc (.op .no qee .loc (.op .no q1u .loc (.op .no qek .loc (.op .no q1v .loc (.op .no qeg .loc (.op .no qeh .loc (.op .no q1u .loc (.op .no (.soft (.bin .neq 43 qv qc)) q26 .fin)))))))))) 0) (.cond q28 (.seq (.rg (.op .no q18 .loc (.op .no q8w .loc (.op .no q76 .loc (.op .no q1h .loc (.op .no (.ias 2 qi qc) .loc (.op .no q1t .loc (.op .no (.ias 2 qv qs) .loc (.op .no (.st 2 qc qi) .non .fin))))))))) qel) .skip))) q1z))))) (.seq (.rg (.op .no q18 .loc (.op .no q8w .loc (.op .no (.gen (.slice 116 (.tmp 54) (Option.some (.tmp 55)) Option.none Option.none) (rfC 17596514574653 [55, 54])) .loc (.op .no (.gen (.call (Call.mk (Callee.builtin Builtin.clear) (Array.mk [(.tmp 56)]) (Array.mk [116]))) (rfC 17596514574653 [56, 55, 54])) .non .fin))))) (.seq (.rg (.op .no q18 .loc (.op .no q8w .loc (.op .no (.gen (.slice 116 (.tmp 57) Option.none (Option.some (.tmp 58)) Option.none) (rfC 17596514574653 [58, 57])) .loc q8x)))) .ret)))) .skip))) qel))))) qec))))
theorem cf112_ok : compF Go.Proofs.Tryz.prog xi112 = some cf112 := by kernel_rfl
noncomputable def xi113 := xiM 113 Go.Proofs.Tryz.f113 383
theorem xi113_ok : TabOK Go.Proofs.Tryz.prog [xi113] := tabOK1 Go.Proofs.Tryz.func113 (by kernel_rfl) (by kernel_rfl) rfl rfl
noncomputable def cf113 : FnC := (.mk 383 18 q6o (.seq q6t (.seq qbn q6y)))
theorem cf113_ok : compF Go.Proofs.Tryz.prog xi113 = some cf113 := by kernel_rfl
noncomputable def xi114 := xiM 114 Go.Proofs.Tryz.f114 568328959
theorem xi114_ok : TabOK Go.Proofs.Tryz.prog [xi114] := tabOK1 Go.Proofs.Tryz.func114 (by kernel_rfl) (by kernel_rfl) rfl rfl
noncomputable def cf114 : FnC := (.mk 568328959 31 q6o (.seq (.rg (.op .no q9m q7 (.op .no q9c qz qbv))) (.seq (.rg (.op .no q6v .loc (.op .no (.call (.lit (.clo 191 [])) [qc]) .loc (.op .no qf .loc (.op .no q22 .loc (.op .no q23 .loc (.op .no (.alloc 306 [(.int .i64 (.ofNat 0)), (.int .i64 (.ofNat 0)), (.int .i64 (.ofNat 0)), (.int .i64 (.ofNat 0)), (.int .i64 (.ofNat 0)), (.int .i64 (.ofNat 0))]) q2g (.op .no (.st 6 q2h qi) .non q4y)))))))) (.seq (.seq (.rg (.op .no q4z .loc (.op .no q25 .loc (.op .no qf .loc (.op qg q3f .loc (.op qj qal .loc qe7)))))) (.cond q28 qc1 .skip)) (.seq (.seq (.rg (.op .no (.ld 6 true q2h) q2d (.op .no q6 q2j .fin))) (.block 0 (.loop (.seq (.rg (.op .no (.bin .lss 3 q2k q3q) q2l .fin)) (.seq (.cond q2p .skip q1n) (.seq (.block 1 (.seq (.rg (.op .no (.gen (.index 306 (.tmp 22) (.tmp 23)) (rfC 568328959 [])) .loc (.op .no qem q33 (.op .no (.st 2 q34 qc) .non .fin)))) (.seq (.rg (.op .no q3f .loc (.op .no (.ld 2 true q34) .loc (.op .no (.call (.lit (.clo 192 [])) [qi, qc]) .loc (.op .no qen q2m .fin))))) (.cond q2o (.seq (.rg (.op .no q11 q1e q4r)) .ret) .skip)))) q7h)))))) (.seq (.rg qbv) .ret))))))
theorem cf114_ok : compF Go.Proofs.Tryz.prog xi114 = some cf114 := by kernel_rfl
noncomputable def xi115 := xiM 115 Go.Proofs.Tryz.f115 19
theorem xi115_ok : TabOK Go.Proofs.Tryz.prog [xi115] := tabOK1 Go.Proofs.Tryz.func115 (by kernel_rfl) (by kernel_rfl) rfl rfl
noncomputable def cf115 : FnC := (.mk 19 9 q1 (.seq qep (.seq (.rg (.op .no q18 .loc (.op .no q19 .loc (.op .no (.call (.lit (.clo 193 [])) [qi, qc]) .loc qer)))) .ret)))
theorem cf115_ok : compF Go.Proofs.Tryz.prog xi115 = some cf115 := by kernel_rfl
noncomputable def xi119 := xiM 119 Go.Proofs.Tryz.f119 19
theorem xi119_ok : TabOK Go.Proofs.Tryz.prog [xi119] := tabOK1 Go.Proofs.Tryz.func119 (by kernel_rfl) (by kernel_rfl) rfl rfl
noncomputable def cf119 : FnC := (.mk 19 14 q8c (.seq qcg (.rg (.op .no q18 .loc (.op .no q8w .loc (.op .no q8w .loc (.op .no qch .loc (.op .no qci .loc (.op .no q19 .loc (.op .no (.call qes [qv, q5, qs, qi, qc]) .loc .fin))))))))))
theorem cf119_ok : compF Go.Proofs.Tryz.prog xi119 = some cf119 := by kernel_rfl
noncomputable def xi121 := xiM 121 Go.Proofs.Tryz.f121 5
theorem xi121_ok : TabOK Go.Proofs.Tryz.prog [xi121] := tabOK1 Go.Proofs.Tryz.func121 (by kernel_rfl) (by kernel_rfl) rfl rfl
noncomputable def cf121 : FnC := (.mk 5 9 q8s (.seq qbk (.seq (.rg (.op .no q18 .loc (.op .no q18 .loc (.op .no q3y .loc (.op .no q18 .loc (.op .no q3y .loc (.op .no (.gen (.slice 24 (.tmp 3) Option.none (Option.some (.tmp 5)) (Option.some (.tmp 7))) (rfC 5 [7, 6, 5, 4, 3])) .loc q8x))))))) .ret)))
theorem cf121_ok : compF Go.Proofs.Tryz.prog xi121 = some cf121 := by kernel_rfl
noncomputable def xi122 := xiM 122 Go.Proofs.Tryz.f122 21
theorem xi122_ok : TabOK Go.Proofs.Tryz.prog [xi122] := tabOK1 Go.Proofs.Tryz.func122 (by kernel_rfl) (by kernel_rfl) rfl rfl
noncomputable def cf122 : FnC := (.mk 21 8 q8s (.seq qbk (.seq (.seq (.rg (.op .no q18 .loc (.op .no (.bin .eql 24 qc q6r) q7 .fin))) qcs) (.seq (.rg (.op .no (.bsl 62 0 3 []) .loc (.op .no q18 .loc (.op .no (.app 24 62 3 16 qi qc) .loc q8x)))) .ret))))
theorem cf122_ok : compF Go.Proofs.Tryz.prog xi122 = some cf122 := by kernel_rfl
noncomputable def xi123 := xiM 123 Go.Proofs.Tryz.f123 525
theorem xi123_ok : TabOK Go.Proofs.Tryz.prog [xi123] := tabOK1 Go.Proofs.Tryz.func123 (by kernel_rfl) (by kernel_rfl) rfl rfl
noncomputable def cf123 : FnC := (.mk 525 28 q8c (.seq (.rg (.op .no q18 .loc (.op .no q3y .loc (.op .no qef .loc (.op .no q6 q4 q29))))) (.block 0 (.loop (.seq (.seq (.rg (.op .no q19 .loc (.op .no q8w .loc (.op .no q97 qz .fin)))) (.cond q10 .skip q1n)) (.seq (.block 1 (.rgd (.op .no qap .loc (.op .no q7p .loc (.op .no qap .loc (.op .no q9j .loc (.op .no q9i .loc (.op .no q60 .loc (.op .no qap .loc (.op .no q7p .loc (.op .no q9i .loc (.op .no q60 .loc (.op .no (.soft (.ias 1 qet q7t)) .loc (.op .no qeu .non (.op .no qap .loc (.op .no q9j .loc (.op .no q9i .loc q7e))))))))))))))) 0)) (.rg (.op .no q19 .loc (.op .no q1x .loc (.op .no q8w .loc (.op .no qef .loc (.op .no q54 q4 q29))))))))))))
theorem cf123_ok : compF Go.Proofs.Tryz.prog xi123 = some cf123 := by kernel_rfl
noncomputable def xi124 := xiM 124 Go.Proofs.Tryz.f124 66483
theorem xi124_ok : TabOK Go.Proofs.Tryz.prog [xi124] := tabOK1 Go.Proofs.Tryz.func124 (by kernel_rfl) (by kernel_rfl) rfl rfl
noncomputable def cf124 : FnC := (.mk 66483 19 q1 (.seq q15 (.seq (.seq qev (.block 0 (.loop (.seq qew (.seq qed (.seq (.block 1 (.seq qex (.seq (.rg (.op .no q19 .loc (.op .no q18 .loc (.op .no q76 .loc (.op .no q79 .loc (.op .no q73 .loc qey)))))) qf0))) qf1)))))) q91)))
theorem cf124_ok : compF Go.Proofs.Tryz.prog xi124 = some cf124 := by kernel_rfl
noncomputable def xi128 := xiM 128 Go.Proofs.Tryz.f128 33554439
theorem xi128_ok : TabOK Go.Proofs.Tryz.prog [xi128] := tabOK1 Go.Proofs.Tryz.func128 (by kernel_rfl) (by kernel_rfl) rfl rfl
noncomputable def cf128 : FnC := (.mk 33554439 26 q1 (.seq (.rg (.op .no (.box 28 q2) q4 q8)) (.seq (.seq (.rg (.op .no qb .loc (.op .no qd .loc (.op .no (.gen (.convert 5 3 (.tmp 4)) (rfC 33554439 [4, 3])) .loc (.op .no (.bin .geq 3 qc qf2) .loc (.op .no qf .loc (.op qg qh .loc (.op qj qd .loc (.op ql qf3 .loc (.op .no qp .loc (.op .no qf .loc (.op qg qav .loc (.op qj qd .loc (.op ql qf3 .loc (.op .no qp .loc (.op .no qf .loc (.op qg qh .loc (.op qj qd .loc (.op ql qav .loc (.op qr qd .loc (.op qt qcc .loc (.op qw (.bin .rem 3 qc q3b) .loc (.op q40 (.bin .neq 3 qc q5) .loc (.op .no q43 qz .fin)))))))))))))))))))))))) q14) q16)))
theorem cf128_ok : compF Go.Proofs.Tryz.prog xi128 = some cf128 := by kernel_rfl
noncomputable def xi138 := xiM 138 Go.Proofs.Tryz.f138 5
theorem xi138_ok : TabOK Go.Proofs.Tryz.prog [xi138] := tabOK1 Go.Proofs.Tryz.func138 (by kernel_rfl) (by kernel_rfl) rfl rfl
noncomputable def cf138 : FnC := (.mk 5 9 q8s (.seq qbk (.seq (.rg (.op .no q18 .loc (.op .no q18 .loc (.op .no q3y .loc (.op .no q18 .loc (.op .no q3y .loc (.op .no (.gen (.slice 50 (.tmp 3) Option.none (Option.some (.tmp 5)) (Option.some (.tmp 7))) (rfC 5 [7, 6, 5, 4, 3])) .loc q8x))))))) .ret)))
theorem cf138_ok : compF Go.Proofs.Tryz.prog xi138 = some cf138 := by kernel_rfl
noncomputable def xi157 := xiM 157 Go.Proofs.Tryz.f157 19
theorem xi157_ok : TabOK Go.Proofs.Tryz.prog [xi157] := tabOK1 Go.Proofs.Tryz.func157 (by kernel_rfl) (by kernel_rfl) rfl rfl
noncomputable def cf157 : FnC := (.mk 19 9 q1 (.seq qep (.seq (.rg (.op .no q18 .loc (.op .no q19 .loc (.op .no (.call (.lit (.clo 124 [])) [qi, qc]) .loc qer)))) .ret)))
theorem cf157_ok : compF Go.Proofs.Tryz.prog xi157 = some cf157 := by kernel_rfl
noncomputable def xi158 := xiM 158 Go.Proofs.Tryz.f158 7
theorem xi158_ok : TabOK Go.Proofs.Tryz.prog [xi158] := tabOK1 Go.Proofs.Tryz.func158 (by kernel_rfl) (by kernel_rfl) rfl rfl
noncomputable def cf158 : FnC := (.mk 7 7 q1 (.seq (.rg (.op .no (.box 92 q2) q4 qeo)) (.seq (.rg (.op .no qb .loc (.op .no q2u .loc (.op .no qe6 .loc (.op .no q25 .loc q29))))) .ret)))
theorem cf158_ok : compF Go.Proofs.Tryz.prog xi158 = some cf158 := by kernel_rfl
noncomputable def xi159 := xiM 159 Go.Proofs.Tryz.f159 33554439
theorem xi159_ok : TabOK Go.Proofs.Tryz.prog [xi159] := tabOK1 Go.Proofs.Tryz.func159 (by kernel_rfl) (by kernel_rfl) rfl rfl
noncomputable def cf159 : FnC := (.mk 33554439 26 q1 (.seq (.rg (.op .no qcm q4 q8)) (.seq (.seq (.rg (.op .no qb .loc (.op .no qd .loc (.op .no qas .loc (.op .no qf .loc (.op qg qb .loc (.op qj qd .loc (.op ql qat .loc (.op .no qp .loc (.op .no qf .loc (.op qg qh .loc (.op qj qd .loc (.op ql qas .loc (.op .no qp .loc (.op .no qf .loc (.op qg qh .loc (.op qj qd .loc (.op ql qat .loc (.op .no qp .loc (.op .no qf .loc (.op qg qav .loc (.op qj qd .loc (.op ql (.bin .gtr 5 qc q3m) .loc qau))))))))))))))))))))))) q14) q16)))
theorem cf159_ok : compF Go.Proofs.Tryz.prog xi159 = some cf159 := by kernel_rfl
noncomputable def xi160 := xiM 160 Go.Proofs.Tryz.f160 2113663
theorem xi160_ok : TabOK Go.Proofs.Tryz.prog [xi160] := tabOK1 Go.Proofs.Tryz.func160 (by kernel_rfl) (by kernel_rfl) rfl rfl
noncomputable def cf160 : FnC := (.mk 2113663 24 qf4 (.seq (.rg (.op .no (.box 28 q2) q7 (.op .no q9c qz (.op .no q7o q1e q4r)))) (.seq (.seq (.rg (.op .no q6u .loc (.op .no qbf .loc (.op .no q25 .loc (.op .no qf .loc (.op qg q6v .loc (.op qj qe6 .loc (.op ql q25 .loc (.op .no qp q2w .fin))))))))) (.cond q2x (.seq (.rg (.op .no q4d .loc (.op .no q8i .non q9l))) .ret) .skip)) (.seq (.rg (.op .no q6u .loc (.op .no q6v .loc (.op .no (.call (.lit (.clo 213 [])) [qi, qc]) .loc (.op .no q7o q2g (.op .no (.st 3 q2h qc) .non .fin)))))) (.seq (.seq (.rg (.op .no qbz .loc (.op .no qe6 .loc q89))) (.cond q34 (.seq (.rg (.op .no q4d .loc (.op .no q8i .non q5r))) .ret) .skip)) (.seq (.rg (.op .no qbz .loc (.op .no q8i .non q4r))) .ret))))))
theorem cf160_ok : compF Go.Proofs.Tryz.prog xi160 = some cf160 := by kernel_rfl
noncomputable def xi161 := xiM 161 Go.Proofs.Tryz.f161 3
theorem xi161_ok : TabOK Go.Proofs.Tryz.prog [xi161] := tabOK1 Go.Proofs.Tryz.func161 (by kernel_rfl) (by kernel_rfl) rfl rfl
noncomputable def cf161 : FnC := (.mk 3 9 q8c (.rg (.op .no q18 .loc (.op .no q18 .loc (.op .no q3y .loc (.op .no q19 .loc (.op .no (.call (.lit (.clo 214 [])) [qn, qi, qc]) .loc .fin)))))))
theorem cf161_ok : compF Go.Proofs.Tryz.prog xi161 = some cf161 := by kernel_rfl
noncomputable def xi162 := xiM 162 Go.Proofs.Tryz.f162 31
theorem xi162_ok : TabOK Go.Proofs.Tryz.prog [xi162] := tabOK1 Go.Proofs.Tryz.func162 (by kernel_rfl) (by kernel_rfl) rfl rfl
noncomputable def cf162 : FnC := (.mk 31 10 qck (.seq (.rg (.op .no (.box 92 q2) q7 (.op .no (.box 92 qa) qz q1f))) (.seq (.rg (.op .no q6g .loc (.op .no q2u .loc (.op .no q1p .loc (.op .no q2u .loc (.op .no qcl .loc q1y)))))) .ret)))
theorem cf162_ok : compF Go.Proofs.Tryz.prog xi162 = some cf162 := by kernel_rfl
noncomputable def xi163 := xiM 163 Go.Proofs.Tryz.f163 7
theorem xi163_ok : TabOK Go.Proofs.Tryz.prog [xi163] := tabOK1 Go.Proofs.Tryz.func163 (by kernel_rfl) (by kernel_rfl) rfl rfl
noncomputable def cf163 : FnC := (.mk 7 11 q1 (.seq (.rg (.op .no (.box 28 q2) q4 qeo)) (.seq (.rg (.op .no (.ld 3 true qa) .loc (.op .no qbf .loc (.op .no q4f .loc (.op .no qf .loc (.op q4g qb .loc (.op q4i qd .loc (.op q4j (.bin .geq 5 qc q4o) .loc (.op .no q4k .loc q29))))))))) .ret)))
theorem cf163_ok : compF Go.Proofs.Tryz.prog xi163 = some cf163 := by kernel_rfl
noncomputable def xi164 := xiM 164 Go.Proofs.Tryz.f164 31
theorem xi164_ok : TabOK Go.Proofs.Tryz.prog [xi164] := tabOK1 Go.Proofs.Tryz.func164 (by kernel_rfl) (by kernel_rfl) rfl rfl
noncomputable def cf164 : FnC := (.mk 31 17 qck (.seq (.rg (.op .no qf5 q7 (.op .no (.box 62 qa) qz q1f))) (.seq (.rgd (.op .no q7r .loc (.op .no q60 .loc (.op .no q1q .loc (.op .no q60 .loc (.op .no qe9 .loc (.op .no (.soft qcn) .loc (.op .no (.softw qd 1 (.load 5 (.tmp 10)) (rfR 31 [10, 9, 8, 7, 6, 5] [10])) .loc (.op .no qdv .loc (.op .no (.softw qd 1 (.load 5 (.tmp 12)) (rfR 31 [12, 11, 10, 9, 8, 7, 6, 5] [12])) .loc (.op .no qf6 .loc qeb)))))))))) 2) .ret)))
theorem cf164_ok : compF Go.Proofs.Tryz.prog xi164 = some cf164 := by kernel_rfl
noncomputable def xi165 := xiM 165 Go.Proofs.Tryz.f165 66483
theorem xi165_ok : TabOK Go.Proofs.Tryz.prog [xi165] := tabOK1 Go.Proofs.Tryz.func165 (by kernel_rfl) (by kernel_rfl) rfl rfl
noncomputable def cf165 : FnC := (.mk 66483 19 q1 (.seq q15 (.seq (.seq qev (.block 0 (.loop (.seq qew (.seq qed (.seq (.block 1 (.seq qex (.seq (.rg (.op .no q19 .loc (.op .no q18 .loc (.op .no q76 .loc (.op .no q9h .loc (.op .no qd .loc (.op .no (.bin .eql 3 qs qc) q2w .fin))))))) qf0))) qf1)))))) q91)))
theorem cf165_ok : compF Go.Proofs.Tryz.prog xi165 = some cf165 := by kernel_rfl
noncomputable def xi166 := xiM 166 Go.Proofs.Tryz.f166 66679
theorem xi166_ok : TabOK Go.Proofs.Tryz.prog [xi166] := tabOK1 Go.Proofs.Tryz.func166 (by kernel_rfl) (by kernel_rfl) rfl rfl
noncomputable def cf166 : FnC := (.mk 66679 21 (.many [(.cell 3 true q10), q6n]) (.seq (.rg (.op .no q3 q7 (.op .no q7o qz q1f))) (.seq (.seq (.rg (.op .no q3f .loc (.op .no qe4 .loc q2b))) (.seq (.rg (.op .no q2c .loc (.op .no q25 q2g .fin))) (.cond q2h (.seq (.rg (.op .no q4d .loc (.op .no q2c .loc (.op .no qf7 .non q1y)))) .ret) .skip))) (.seq (.seq (.rg (.op .no q3f .loc (.op .no q19 .loc (.op .no (.call (.lit (.clo 215 [])) [qi, qc]) .loc (.op .no q6d q2w .fin))))) (.cond q2x (.seq (.rg (.op .no q4d .loc (.op .no q7v .non (.op .no (.mv q3w) q1e .fin)))) .ret) .skip)) (.seq (.rg (.op .no q3f .loc (.op .no q19 .loc (.op .no (.call (.lit (.clo 216 [])) [qi, qc]) .loc (.op .no q7v .non q1f))))) .ret)))))
theorem cf166_ok : compF Go.Proofs.Tryz.prog xi166 = some cf166 := by kernel_rfl
noncomputable def xi168 := xiM 168 Go.Proofs.Tryz.f168 274877908095
theorem xi168_ok : TabOK Go.Proofs.Tryz.prog [xi168] := tabOK1 Go.Proofs.Tryz.func168 (by kernel_rfl) (by kernel_rfl) rfl rfl
noncomputable def cf168 : FnC := (.mk 274877908095 52 q6o (.seq (.rg (.op .no q3 q7 (.op .no q9c qz qbv))) (.seq (.seq qf8 (.seq (.rg (.op .no q3r .loc q80)) (.cond q2x (.seq (.rg (.op .no q3r .loc qby)) .ret) .skip))) (.seq (.seq (.rg (.op .no q6v .loc (.op .no qe6 .loc (.op .no q25 .loc (.op .no qf .loc (.op qg q1p .loc (.op qj qd .loc (.op ql qcd .loc (.op .no qp .loc (.op .no qf .loc (.op qg q1p .loc (.op qj qd .loc (.op ql q6g .loc (.op qr qd .loc (.op qt (.bin .geq 3 qk qc) .loc (.op .no q3z .loc (.op .no qf .loc (.op qg qco .loc (.op qj qd .loc (.op ql qcd .loc (.op .no qp .loc (.op .no qf .loc (.op qg qco .loc (.op qj qd .loc (.op ql qcn .loc (.op qr qd .loc (.op qt (.bin .geq 3 qk qc) .loc (.op .no q3z q33 .fin)))))))))))))))))))))))))))) (.cond q34 (.seq (.rg (.op .no q6 q1e q5b)) .ret) .skip)) (.seq (.rg (.op .no qco .loc (.op .no qd .loc (.op .no q6g .loc (.op .no qd .loc (.op .no qu .loc (.op .no q1p .loc (.op .no qd .loc (.op .no qcc .loc (.op .no q1j .loc (.op .no q5g .loc (.op .no qd .loc (.op .no (.gen (.convert 5 3 (.tmp 49)) (rfC 274877908095 [49, 48, 47, 46, 45, 44, 43, 42, 41, 40, 39])) .loc (.op .no qf9 .loc qbp)))))))))))))) .ret)))))
theorem cf168_ok : compF Go.Proofs.Tryz.prog xi168 = some cf168 := by kernel_rfl
noncomputable def xi169 := xiM 169 Go.Proofs.Tryz.f169 36893774020450329071
theorem xi169_ok : TabOK Go.Proofs.Tryz.prog [xi169] := tabOK1 Go.Proofs.Tryz.func169 (by kernel_rfl) (by kernel_rfl) rfl rfl
noncomputable def cf169 : FnC := (.mk 36893774020450329071 66 q1 (.seq (.rg (.op .no q6p q4 q8)) (.seq (.seq (.rg (.op .no qb .loc (.op .no q1t .loc (.op .no qe4 .loc q70)))) (.seq (.rg (.op .no q76 .loc q89)) (.cond q34 qez .skip))) (.seq (.seq (.rg (.op .no qav .loc (.op .no qd .loc (.op .no (.call (.lit (.clo 217 [])) [qc, (.lit (.clo 218 []))]) q26 .fin)))) q95) (.seq (.seq (.rg (.op .no qav .loc (.op .no qd q2d (.op .no (.len q2e) q2j (.op .no q6 q2l .fin))))) (.block 0 (.loop (.seq (.rg (.op .no (.bin .lss 3 q2p q2k) q2m .fin)) (.seq (.cond q2o .skip q1n) (.seq (.block 1 (.seq (.rg (.op .no (.ias 3 q2e q2p) .loc qfa)) (.seq (.rg (.op .no qb .loc (.op .no q1t .loc (.op .no qfb .loc (.op .no qd .loc (.op .no (.fadr 1 q1g) .loc (.op .no qd .loc (.op .no qfc .loc (.op .no qf .loc (.op .no q22 .loc (.op .no q23 .loc (.op .no qa6 q1l (.op .no (.st 2 q1m qi) .non q3j))))))))))))) (.seq (.rgd (.op .no q78 .loc (.op .no (.soft q25) .loc (.op .no q49 .loc (.op qg q8l .loc (.op qj qfd .loc (.op ql (.softw (.ld 2 true q1m) 1 (.load 107 (.tmp 6)) (rfR 36893774020450329071 [40, 39, 37, 36, 35] [6, 37])) .loc (.op qr (.soft (.bin .neq 107 qc qi)) .loc (.op .no qfe q2q .fin)))))))) 0) (.cond q2s (.seq (.rg (.op .no (.mv q3w) q7 .fin)) .ret) .skip))))) (.rg (.op .no (.bin .add 3 q2p qe) .loc qd0)))))))) (.seq (.seq (.rg (.op .no q11 q2w .fin)) (.block 2 (.loop (.seq (.seq (.rg (.op .no q4z .loc (.op .no qav .loc (.op .no qd .loc (.op .no q3y .loc (.op .no (.bin .lss 3 qn qc) q37 .fin)))))) (.cond q38 .skip q7j)) (.seq (.block 3 (.seq (.rgd (.op .no (.soft qav) .loc (.op .no q60 .loc (.op .no q9g .loc (.op .no qeg .loc (.op .no qac .loc (.op .no qad .loc (.op .no qfd .loc (.op .no (.soft qav) .loc (.op .no (.softw qd 1 (.load 24 (.tmp 58)) (rfR 36893774020450329071 [58, 57, 56, 55, 54, 53, 52, 51] [58])) .loc (.op .no q9g .loc (.op .no (.softw qaf 1 (.indexAddr 24 (.tmp 59) (.tmp 60)) (rfR 36893774020450329071 [60, 59, 58, 57, 56, 55, 54, 53, 52, 51] [59, 60])) .loc (.op .no (.softw q2u 1 (.load 62 (.tmp 61)) (rfR 36893774020450329071 [61, 60, 59, 58, 57, 56, 55, 54, 53, 52, 51] [61])) .loc (.op .no qfd .loc (.op .no (.hard (.call (.lit (.clo 222 [])) [qx, qc])) .loc (.op .no (.soft qeq) q5o .fin))))))))))))))) 0) (.cond q69 (.seq (.rg (.op .no qff q7 .fin)) .ret) .skip))) q9k))))) q16))))))
theorem cf169_ok : compF Go.Proofs.Tryz.prog xi169 = some cf169 := by kernel_rfl
noncomputable def xi170 := xiM 170 Go.Proofs.Tryz.f170 9444805164174432813055
theorem xi170_ok : TabOK Go.Proofs.Tryz.prog [xi170] := tabOK1 Go.Proofs.Tryz.func170 (by kernel_rfl) (by kernel_rfl) rfl rfl
noncomputable def cf170 : FnC := (.mk 9444805164174432813055 76 q9s (.seq (.rg (.op .no q6p q4 q9t)) (.seq (.rg (.op .no (.ld 3 true qa) .loc (.op .no (.call (.lit (.clo 223 [])) [qc]) .loc (.op .no (.alloc 329 [(.con (.map Option.none))]) q1e (.op .no (.st 1 q1g qc) .non .fin))))) (.seq (.rg (.op .no qb .loc (.op .no q1t .loc (.op .no qcu .loc (.op .no (.gen (.makeSlice 119 (.tmp 18) (.tmp 18)) (rfC 9444805164174432813055 [18, 17, 16])) .loc (.op .no (.alloc 119 [(.con (.slice Option.none 0 0))]) q1l qfg)))))) (.seq (.rg (.op .no qe5 .loc (.op .no q3y .loc (.op .no (.gen (.makeSlice 98 (.tmp 21) (.tmp 21)) (rfC 9444805164174432813055 [21, 20])) .loc q3j)))) (.seq (.rg (.op .no (.gen (.makeFunc (Fn.func 224) (Array.mk []) (Array.mk [(.tmp 1), (.tmp 4), (.tmp 5)])) (rfC 9444805164174432813055 [])) .loc q4y)) (.seq (.rg (.op .no q3r .loc (.op .no q5z .loc qfh))) (.seq (.seq (.rg (.op .no (.bsl 3 1 1 [q5]) .loc q3l)) (.block 0 (.loop (.seq (.seq (.rg (.op .no q3t .loc (.op .no q3y .loc (.op .no qen q2q .fin)))) q2t) (.block 1 (.seq (.rg (.op .no q3t .loc (.op .no q5z .loc (.op .no qd .loc qb1)))) (.seq (.rg (.op .no q3t .loc (.op .no (.gen (.slice 50 (.tmp 33) (Option.some (.const (.int .i64 (.ofNat 1)))) Option.none Option.none) (rfC 9444805164174432813055 [33])) .loc q3l))) (.seq (.rg (.op .no qbt q37 .fin)) (.block 2 (.loop (.seq (.rg (.op .no (.bin .lss 5 q38 q3m) q5o .fin)) (.seq (.cond q69 .skip q7j) (.seq (.block 3 (.seq (.rg (.op .no (.mv q38) .loc q3o)) (.seq (.rg (.op .no qb .loc (.op .no q1t .loc (.op .no q5x .loc (.op .no q3u .loc (.op .no qdy .loc qfi)))))) (.seq (.seq (.rg (.op .no q3x .loc qa1)) (.cond q5w (.exit 3) .skip)) (.seq (.rg (.op .no q4z .loc (.op .no q5x .loc (.op .no q3u .loc (.op .no (.call qk [qi, qc]) .loc (.op .no q5d q2m (.op .no (.st 3 q2o qc) .non .fin))))))) (.seq (.seq (.rg (.op .no q3r .loc (.op .no q3v .loc (.op .no q9h .loc (.op .no qd .loc (.op .no q6d q6j .fin)))))) (.cond q6k (.seq (.rg (.op .no qe5 .loc (.op .no q3v .loc (.op .no q3r .loc (.op .no q3v .loc (.op .no (.ld 3 true q2o) .loc (.op .no (.ias 3 qs qn) .loc (.op .no (.st 3 qc qi) .non (.op .no (.ias 1 qn qk) .loc qfh))))))))) (.rg (.op .no q3t .loc (.op .no q3v .loc (.op .no qfj .loc (.op .no q7d .loc q3l)))))) .skip)) (.seq (.rgd (.op .no (.soft qe5) .loc (.op .no qae .loc (.op .no qag .loc (.op .no qad .loc (.op .no qc9 .loc (.op .no (.soft (.bin .neq 28 qi qc)) q4u .fin)))))) 0) (.cond q4v (.seq (.rg (.op .no q6s q7 (.op .no (.mv (.lit (.int .i64 (.ofNat 11)))) qz .fin))) .ret) .skip)))))))) (.rg (.op .no (.bin .add 5 q38 q3c) .loc q5f))))))))))))))) (.seq (.rg (.op .no qe5 .loc qaj)) .ret)))))))))
theorem cf170_ok : compF Go.Proofs.Tryz.prog xi170 = some cf170 := by kernel_rfl
noncomputable def xi171 := xiM 171 Go.Proofs.Tryz.f171 65619
theorem xi171_ok : TabOK Go.Proofs.Tryz.prog [xi171] := tabOK1 Go.Proofs.Tryz.func171 (by kernel_rfl) (by kernel_rfl) rfl rfl
noncomputable def cf171 : FnC := (.mk 65619 27 q1 (.seq q6z (.seq (.seq (.rg (.op .no q19 .loc (.op .no qcd qz .fin))) (.cond q10 (.rg (.op .no (.gen (.makeInterface 9 (.const (.string (ByteArray.mk (Array.mk [(UInt8.ofNat 99), (UInt8.ofNat 97), (UInt8.ofNat 110), (UInt8.ofNat 110), (UInt8.ofNat 111), (UInt8.ofNat 116), (UInt8.ofNat 32), (UInt8.ofNat 98), (UInt8.ofNat 101), (UInt8.ofNat 32), (UInt8.ofNat 110), (UInt8.ofNat 101), (UInt8.ofNat 103), (UInt8.ofNat 97), (UInt8.ofNat 116), (UInt8.ofNat 105), (UInt8.ofNat 118), (UInt8.ofNat 101)]))))) (rfC 65619 [])) .loc (.op .no (.gen (.panic (.tmp 7)) (rfC 65619 [7])) .non .fin))) .skip)) (.seq (.seq (.rg (.op .no q19 .loc (.op .no q18 .loc (.op .no (.gen (.call (Call.mk (Callee.builtin Builtin.cap) (Array.mk [(.tmp 9)]) (Array.mk [29]))) (rfC 65619 [9, 8])) .loc (.op .no q18 .loc (.op .no q3y .loc (.op .no qfk .loc (.op .no (.bin .sub 3 qv qc) .loc q8x)))))))) (.seq (.rg (.op .no q19 .loc (.op .no qen q1e .fin))) (.cond q1g (.rg (.op .no q18 .loc (.op .no q18 .loc (.op .no (.gen (.call (Call.mk (Callee.builtin Builtin.cap) (Array.mk [(.tmp 18)]) (Array.mk [29]))) (rfC 65619 [18, 17])) .loc (.op .no (.gen (.slice 29 (.tmp 17) Option.none (Option.some (.tmp 19)) Option.none) (rfC 65619 [19, 18, 17])) .loc (.op .no q19 .loc (.op .no (.gen (.call (Call.mk (Callee.builtin Builtin.append) (Array.mk [(.tmp 20), (.tmp 21)]) (Array.mk [29, 3]))) (rfC 65619 [21, 20, 19, 18, 17])) .loc (.op .no q18 .loc (.op .no q3y .loc (.op .no (.gen (.slice 29 (.tmp 22) Option.none (Option.some (.tmp 24)) Option.none) (rfC 65619 [24, 23, 22, 21, 20, 19, 18, 17])) .loc q4p)))))))))) .skip))) (.seq (.rg (.op .no q18 .loc q29)) .ret)))))
theorem cf171_ok : compF Go.Proofs.Tryz.prog xi171 = some cf171 := by kernel_rfl
noncomputable def xi172 := xiM 172 Go.Proofs.Tryz.f172 21
theorem xi172_ok : TabOK Go.Proofs.Tryz.prog [xi172] := tabOK1 Go.Proofs.Tryz.func172 (by kernel_rfl) (by kernel_rfl) rfl rfl
noncomputable def cf172 : FnC := (.mk 21 8 q8s (.seq qbk (.seq (.seq (.rg (.op .no q18 .loc (.op .no (.bin .eql 50 qc q6r) q7 .fin))) qcs) (.seq (.rg (.op .no (.bsl 3 0 1 []) .loc (.op .no q18 .loc (.op .no (.app 50 3 1 8 qi qc) .loc q8x)))) .ret))))
theorem cf172_ok : compF Go.Proofs.Tryz.prog xi172 = some cf172 := by kernel_rfl
noncomputable def xi173 := xiM 173 Go.Proofs.Tryz.f173 42535296023574879666274036850519702559
theorem xi173_ok : TabOK Go.Proofs.Tryz.prog [xi173] := tabOK1 Go.Proofs.Tryz.func173 (by kernel_rfl) (by kernel_rfl) rfl rfl
noncomputable def cf173 : FnC := (.mk 42535296023574879666274036850519702559 148 q8c (.seq qdi (.seq qfm (.block 0 (.loop (.block 1 (.seq qfo (.seq (.seq qfp (.cond q69 (.seq (.rg (.op .no q18 .loc (.op .no q19 .loc (.op .no q8w .loc (.op .no q1h .loc qfq))))) .ret) .skip)) (.seq (.seq qfr (.cond q5w (.seq (.rg (.op .no q18 .loc (.op .no q19 .loc (.op .no q8w .loc (.op .no q1h .loc (.op .no (.call (.lit (.clo 227 [])) [qn, qk, qi, qc]) .loc .fin)))))) .ret) .skip)) (.seq (.seq qfs (.cond q6k (.seq (.rg (.op .no q18 .loc (.op .no q19 .loc (.op .no q8w .loc (.op .no q1h .loc (.op .no (.call (.lit (.clo 228 [])) [qn, qk, qi, qc]) .loc .fin)))))) qft) .skip)) (.seq (.rg (.op .no q18 .loc (.op .no q19 .loc (.op .no q8w .loc (.op .no q1h .loc (.op .no (.call (.lit (.clo 229 [])) [qn, qk, qi, qc]) .loc qc4)))))) (.seq (.seq qfu (.cond q4v (.seq (.rg (.op .no q18 .loc (.op .no q19 .loc (.op .no q8w .loc (.op .no q1h .loc (.op .no (.call (.lit (.clo 230 [])) [qn, qk, qi, qc]) .loc .fin)))))) qfw) .skip)) (.seq (.seq qfy (.cond q52 (.seq (.rg (.op .no q18 .loc (.op .no q19 .loc (.op .no q8w .loc (.op .no q1h .loc (.op .no (.call (.lit (.clo 231 [])) [qn, qk, qi, qc]) q56 .fin)))))) qfz) .skip)) (.seq (.seq (.rgd (.op .no q7p .loc (.op .no qg0 .loc (.op .no q49 .loc (.op q4g q1v .loc (.op q4i qap .loc (.op q4j q7p .loc (.op q4l qeg .loc (.op q4m qg1 .loc (.op qg2 qg3 .loc (.op qg4 qap .loc (.op qg5 qc8 .loc (.op qg6 q7a .loc (.op qg7 qg3 .loc qgc))))))))))))) 0) (.cond q59 (.seq (.rg (.op .no q18 .loc (.op .no q19 .loc (.op .no q8w .loc (.op .no q3t .loc (.op .no q1h .loc (.op .no (.call (.lit (.clo 232 [])) [qs, qn, qk, qi, qc]) .loc q3o))))))) qgd) .skip)) (.seq (.rg (.op .no q18 .loc (.op .no q19 .loc (.op .no q8w .loc (.op .no q3t .loc (.op .no q1h .loc (.op .no (.call (.lit (.clo 233 [])) [qs, qn, qk, qi, qc]) .loc qfi))))))) (.seq qge (.seq qgf (.seq qgg (.seq qgh (.cond q5j (.seq qgk (.seq (.rg (.op .no q18 .loc (.op .no q19 .loc (.op .no q3v .loc (.op .no q76 .loc (.op .no q1h .loc (.op .no (.call qcj [qs, qn, qk, qi, qc]) .loc .fin))))))) qgl)) (.seq qgm (.seq (.rg (.op .no q18 .loc (.op .no q3v .loc (.op .no q1x .loc (.op .no q8w .loc (.op .no q76 .loc (.op .no q1h .loc (.op .no (.call qcj [qv, qn, qk, qi, qc]) .loc .fin)))))))) qgn))))))))))))))))))))))
theorem cf173_ok : compF Go.Proofs.Tryz.prog xi173 = some cf173 := by kernel_rfl
noncomputable def xi174 := xiM 174 Go.Proofs.Tryz.f174 5
theorem xi174_ok : TabOK Go.Proofs.Tryz.prog [xi174] := tabOK1 Go.Proofs.Tryz.func174 (by kernel_rfl) (by kernel_rfl) rfl rfl
noncomputable def cf174 : FnC := (.mk 5 8 q8s (.seq q8t (.seq (.cond q35 (.seq (.rg (.op .no q18 .loc (.op .no (.gen (.convert 272 341 (.tmp 3)) (rfC 5 [3])) .loc (.op .no (.call (.lit (.clo 234 [])) [qc]) .loc q8x)))) .ret) .skip) (.seq (.rg (.op .no q18 .loc (.op .no (.call (.lit (.clo 235 [])) [qc]) .loc q8x))) .ret))))
theorem cf174_ok : compF Go.Proofs.Tryz.prog xi174 = some cf174 := by kernel_rfl
noncomputable def xi175 := xiM 175 Go.Proofs.Tryz.f175 263157
theorem xi175_ok : TabOK Go.Proofs.Tryz.prog [xi175] := tabOK1 Go.Proofs.Tryz.func175 (by kernel_rfl) (by kernel_rfl) rfl rfl
noncomputable def cf175 : FnC := (.mk 263157 21 q8s (.seq q8t (.seq (.seq q8u (.block 0 (.loop (.seq q84 (.seq q85 (.seq (.block 1 (.seq (.rg (.op .no (.ias 2 q1g q2h) .loc (.op .no q1t .loc (.op .no qdf q7 q3e)))) (.seq (.rg (.op .no (.iaa 2 1 q0 q5) .loc (.op .no qd .loc (.op .no (.iaa 2 1 q0 qe) .loc (.op .no qd .loc (.op .no (.call qdr [qk, qc]) .loc q70)))))) (.seq (.rg (.op .no q76 .loc (.op .no (.bin .neq 3 qc q5) q33 .fin))) q8y)))) q8b)))))) (.seq q8t .ret))))
theorem cf175_ok : compF Go.Proofs.Tryz.prog xi175 = some cf175 := by kernel_rfl
noncomputable def xi177 := xiM 177 Go.Proofs.Tryz.f177 2309489120784772063
theorem xi177_ok : TabOK Go.Proofs.Tryz.prog [xi177] := tabOK1 Go.Proofs.Tryz.func177 (by kernel_rfl) (by kernel_rfl) rfl rfl
noncomputable def cf177 : FnC := (.mk 2309489120784772063 64 q9b (.seq (.rg (.op .no q6p qz (.op .no q6q q1e q4r))) (.seq (.rg (.op .no q6v .loc (.op .no q8k .loc (.op .no qcw .loc (.op .no qf .loc (.op .no q22 .loc (.op .no q23 .loc (.op .no (.alloc 87 [(.con (.slice Option.none 0 0))]) q2g (.op .no (.st 1 q2h qi) .non q4y))))))))) (.seq (.seq (.rg (.op .no q4z .loc qgo)) (.cond q2o (.seq (.rg (.op .no q4z .loc q2b)) .ret) .skip)) (.seq (.seq (.rg (.op .no q8w .loc (.op .no q1p .loc (.op .no q1t .loc (.op .no (.call (.lit (.clo 236 [])) [qk, qc]) .loc q3l))))) (.seq (.rg (.op .no q3t .loc qc3)) (.cond q2s (.seq (.rg (.op .no q3t .loc q2b)) .ret) .skip))) (.seq (.seq (.rg (.op .no q8w q37 (.op .no (.len q38) q5o (.op .no q6 q5v .fin)))) (.block 0 (.loop (.seq (.rg (.op .no (.bin .lss 3 q5w q69) q6j .fin)) (.seq (.cond q6k .skip q1n) (.seq (.block 1 (.seq (.rg (.op .no (.ias 4 q38 q5w) .loc qcx)) (.seq (.rg (.op .no (.fadr 3 q28) .loc (.op .no qd .loc (.op .no (.gen (.makeFunc (Fn.func 237) (Array.mk []) (Array.mk [(.tmp 7), (.tmp 11)])) (rfC 2309489120784772063 [40, 39])) .loc (.op .no qgp q4u .fin))))) (.cond q4v (.seq (.rg (.op .no qff q1l .fin)) .ret) .skip)))) (.rg (.op .no (.bin .add 3 q5w qe) .loc (.op .no qf q5v .fin))))))))) (.seq (.seq (.rg (.op .no q8w q51 (.op .no (.len q52) q56 (.op .no q6 q58 .fin)))) (.block 2 (.loop (.seq (.rg (.op .no (.bin .lss 3 q59 q57) q5i .fin)) (.seq (.cond q5j .skip q7j) (.seq (.block 3 (.seq (.rg (.op .no (.ias 4 q52 q59) .loc (.op .no q73 .loc (.op .no q74 q2d (.op .no (.st 4 q2e qc) .non .fin))))) (.seq (.rg (.op .no qbt q5p .fin)) (.block 4 (.loop (.seq (.rg (.op .no (.bin .lss 5 q5q q3m) q62 .fin)) (.seq (.cond q63 .skip qcz) (.seq (.block 5 (.seq (.rg (.op .no (.mv q5q) .loc q7g)) (.seq (.rg (.op .no (.fadr 0 q2e) .loc (.op .no q2u .loc (.op .no q3v .loc (.op .no qc0 .loc (.op .no qf .loc (.op .no q22 .loc (.op .no q23 .loc (.op .no q7o .loc (.op .no q65 .non (.op .no q3p q2l .fin))))))))))) (.seq (.rg (.op .no q3x .loc (.op .no q25 q66 .fin))) (.cond q67 (.seq (.rg q5r) .ret) .skip))))) (.rg (.op .no (.bin .add 5 q5q q3c) .loc (.op .no qf q5p .fin))))))))))) (.rg (.op .no (.bin .add 3 q59 qe) .loc (.op .no qf q58 .fin))))))))) q9d)))))))
theorem cf177_ok : compF Go.Proofs.Tryz.prog xi177 = some cf177 := by kernel_rfl
noncomputable def xi178 := xiM 178 Go.Proofs.Tryz.f178 39
theorem xi178_ok : TabOK Go.Proofs.Tryz.prog [xi178] := tabOK1 Go.Proofs.Tryz.func178 (by kernel_rfl) (by kernel_rfl) rfl rfl
noncomputable def cf178 : FnC := (.mk 39 12 q1 (.seq q9 (.seq (.seq (.rg (.op .no qak .loc (.op .no qe4 .loc (.op .no q25 qz .fin)))) (.cond q10 q16 .skip)) (.seq (.rg (.op .no qb .loc (.op .no qd .loc (.op .no q1j .loc (.op .no qh .loc (.op .no qd .loc (.op .no qu .loc q29))))))) .ret))))
theorem cf178_ok : compF Go.Proofs.Tryz.prog xi178 = some cf178 := by kernel_rfl
noncomputable def xi179 := xiM 179 Go.Proofs.Tryz.f179 2854582497864015163043553019533815099290744135
theorem xi179_ok : TabOK Go.Proofs.Tryz.prog [xi179] := tabOK1 Go.Proofs.Tryz.func179 (by kernel_rfl) (by kernel_rfl) rfl rfl
noncomputable def cf179 : FnC := (.mk 2854582497864015163043553019533815099290744135 180 q8c (.seq (.rg (.op .no q18 .loc (.op .no qcy .loc (.op .no q1r .loc (.op .no q1r .loc (.op .no q1t .loc (.op .no q19 .loc (.op .no qbw .loc (.op .no qf .loc (.op .no q22 .loc (.op .no q23 .loc (.op .no q7o qz (.op .no qf7 .non q5e))))))))))))) (.seq (.rg (.op .no q6v .loc (.op .no q8w .loc (.op .no qc0 .loc (.op .no qf .loc (.op .no q22 .loc (.op .no q23 .loc (.op .no q7o q1e (.op .no (.st 3 q1g qi) .non q5e))))))))) (.seq (.rgd (.op .no qap .loc (.op .no qda .loc (.op .no q7c .loc (.op .no q60 .loc (.op .no q7p .loc (.op .no qag .loc (.op .no qad .loc (.op .no q8l .loc (.op .no qca .loc (.op .no q49 .loc (.op .no q5m .loc (.op .no (.alloc 59 [(.int .i64 (.ofNat 0)), (.int .i64 (.ofNat 0)), (.int .u8 (.ofNat 0))] 0) q1l (.op .no (.hard (.st 3 q1m qc)) .non qgq))))))))))))) 2) (.seq (.rgd (.op .no qap .loc (.op .no qap .loc (.op .no qda .loc (.op .no (.soft (.fadr 4 qc)) .loc (.op .no q60 .loc (.op .no q7p .loc (.op .no qag .loc (.op .no qad .loc (.op .no (.soft (.ld 3 true q1m)) .loc (.op .no (.hard (.call (.lit (.clo 238 [])) [q7t, qi, qc])) .loc (.op .no q49 q2g .fin))))))))))) 0) (.seq (.rg (.op .no q18 .loc (.op .no qcy .loc (.op .no q1r .loc (.op .no q1r .loc (.op .no q1t .loc (.op .no q19 .loc (.op .no q8w .loc (.op .no qdy .loc qay))))))))) (.seq (.seq (.rg (.op .no q3t .loc (.op .no q25 q2j .fin))) (.cond q2k (.seq (.rg (.op .no q3r .loc (.op .no q3r .loc (.op .no qcy .loc (.op .no qgr .loc (.op .no qd .loc (.op .no q19 .loc (.op .no qfj .loc (.op .no q7d .loc (.op .no (.nilc q42) .loc (.op .no qgr .loc qgs))))))))))) .ret) .skip)) (.seq (.seq (.rg (.op .no q4z .loc (.op .no q19 .loc (.op .no q97 q2l .fin)))) (.cond q2p .ret .skip)) (.seq (.rg (.op .no q18 .loc (.op .no qcy .loc (.op .no q1r .loc (.op .no q2u .loc (.op .no q19 .loc (.op .no q8w .loc (.op .no (.call (.lit (.clo 105 [])) [qk, qi, qc]) .loc (.op .no qf .loc (.op .no q22 .loc (.op .no q23 .loc (.op .no q3p q26 q5e)))))))))))) (.seq qdw (.seq (.seq (.rgd (.op .no qap .loc (.op .no qda .loc (.op .no (.soft (.fadr 4 qc)) .loc (.op .no q60 .loc (.op .no q7p .loc (.op .no qag .loc (.op .no qad .loc (.op .no q78 .loc (.op .no qda .loc (.op .no q7c .loc (.op .no qad .loc (.op .no (.soft (.bin .eql 59 qs qc)) q2m .fin)))))))))))) 0) (.cond q2o (.rg (.op .no (.mv q3c) q2d .fin)) .skip)) (.block 0 (.seq (.rg (.op .no q5x .loc (.op .no qb5 .loc (.op .no qf .loc (.op q4g q3u .loc (.op q4i (.bin .eql 5 qc q5h) .loc (.op .no qfx .loc qah))))))) (.cond q2s (.rg (.op .no q3r .loc (.op .no q3r .loc (.op .no qcy .loc (.op .no q88 .loc (.op .no qd .loc (.op .no q19 .loc (.op .no q4z .loc qgt)))))))) (.seq (.rg (.op .no q5x .loc (.op .no qb5 .loc q5f))) (.cond q38 (.rg (.op .no q3r .loc (.op .no q3r .loc (.op .no qcy .loc (.op .no q88 .loc (.op .no qd .loc (.op .no q4z .loc (.op .no q19 .loc qgt)))))))) (.seq (.rgd (.op .no qap .loc (.op .no qda .loc (.op .no qgu .loc (.op .no q60 .loc (.op .no q7p .loc (.op .no q9i .loc (.op .no q60 .loc (.op .no qap .loc (.op .no qda .loc (.op .no qgu .loc (.op .no q60 .loc (.op .no q9g .loc (.op .no q9i .loc (.op .no q60 .loc (.op .no (.soft (.bin .lss 3 q42 qc)) .loc (.op .no q49 q5o .fin)))))))))))))))) 0) (.cond q69 (.rg (.op .no q3r .loc (.op .no q3r .loc (.op .no qcy .loc (.op .no qd2 .loc (.op .no qd .loc (.op .no q3u .loc (.op .no q19 .loc (.op .no q4z .loc qgv))))))))) (.rg (.op .no q3r .loc (.op .no q3r .loc (.op .no qcy .loc (.op .no qd2 .loc (.op .no qd .loc (.op .no q3u .loc (.op .no q4z .loc (.op .no q19 .loc qgv)))))))))))))))))))))))))))
theorem cf179_ok : compF Go.Proofs.Tryz.prog xi179 = some cf179 := by kernel_rfl
noncomputable def xi180 := xiM 180 Go.Proofs.Tryz.f180 19
theorem xi180_ok : TabOK Go.Proofs.Tryz.prog [xi180] := tabOK1 Go.Proofs.Tryz.func180 (by kernel_rfl) (by kernel_rfl) rfl rfl
noncomputable def cf180 : FnC := (.mk 19 14 q8c (.seq qcg (.rg (.op .no q18 .loc (.op .no q8w .loc (.op .no q8w .loc (.op .no qch .loc (.op .no qci .loc (.op .no q19 .loc (.op .no (.call qgw [qv, q5, qs, qi, qc]) .loc .fin))))))))))
theorem cf180_ok : compF Go.Proofs.Tryz.prog xi180 = some cf180 := by kernel_rfl
noncomputable def xi181 := xiM 181 Go.Proofs.Tryz.f181 31
theorem xi181_ok : TabOK Go.Proofs.Tryz.prog [xi181] := tabOK1 Go.Proofs.Tryz.func181 (by kernel_rfl) (by kernel_rfl) rfl rfl
noncomputable def cf181 : FnC := (.mk 31 17 qck (.seq (.rg (.op .no (.box 284 q2) q7 (.op .no (.box 284 qa) qz q1f))) (.seq (.rgd (.op .no (.soft (.iaa 2 3 q0 q5)) .loc (.op .no qad .loc (.op .no (.soft (.iaa 2 3 q10 q5)) .loc (.op .no qad .loc (.op .no (.hard qcl) .loc (.op .no (.softw (.iaa 2 3 q0 qe) 1 (.indexAddr 284 (.tmp 2) (.const (.int .i64 (.ofNat 1)))) (rfR 31 [9, 8, 7, 6, 5] [2])) .loc (.op .no (.softw q2u 1 (.load 59 (.tmp 10)) (rfR 31 [10, 9, 8, 7, 6, 5] [10])) .loc (.op .no (.softw (.iaa 2 3 q10 qe) 1 (.indexAddr 284 (.tmp 3) (.const (.int .i64 (.ofNat 1)))) (rfR 31 [11, 10, 9, 8, 7, 6, 5] [3])) .loc (.op .no (.softw q2u 1 (.load 59 (.tmp 12)) (rfR 31 [12, 11, 10, 9, 8, 7, 6, 5] [12])) .loc (.op .no (.hard qcl) .loc qeb)))))))))) 2) .ret)))
theorem cf181_ok : compF Go.Proofs.Tryz.prog xi181 = some cf181 := by kernel_rfl
end
end Go.Proofs.YteodgliliglipaaGreatDoor.V.I
namespace Go.Proofs.YteodgliliglipaaGreatDoor.V.I
open Go
noncomputable section
set_option maxRecDepth 100000
noncomputable def xi182 := xiM 182 Go.Proofs.Tryz.f182 23
theorem xi182_ok : TabOK Go.Proofs.Tryz.prog [xi182] := tabOK1 Go.Proofs.Tryz.func182 (by kernel_rfl) (by kernel_rfl) rfl rfl
noncomputable def cf182 : FnC := (.mk 23 49 (.one (.cell 9 true q10)) (.seq (.rg (.op .no (.box 276 q2) q7 (.op .no q86 qz .fin))) (.seq (.rg (.op .no q19 .loc (.op .no qcy .loc (.op .no q88 .loc (.op .no qd .loc (.op .no (.gen (.makeFunc (Fn.func 241) (Array.mk []) (Array.mk [(.tmp 2)])) (rfC 23 [8, 7, 6, 5])) .loc (.op .no (.call (.lit (.clo 240 [])) [qi, qc]) .loc .fin))))))) (.seq (.rg (.op .no q19 .loc (.op .no qcy .loc (.op .no qd2 .loc (.op .no qd .loc (.op .no (.gen (.makeFunc (Fn.func 243) (Array.mk []) (Array.mk [(.tmp 2)])) (rfC 23 [14, 13, 12, 11])) .loc (.op .no (.call (.lit (.clo 242 [])) [qi, qc]) .loc .fin))))))) (.seq (.rg (.op .no q19 .loc (.op .no qcy .loc (.op .no qgr .loc (.op .no qd .loc (.op .no (.call (.lit (.clo 244 [])) [qc]) .loc .fin)))))) (.seq (.rgd (.op .no q7p .loc (.op .no qda .loc (.op .no qdb .loc (.op .no q60 .loc (.op .no (.hard (.call (.lit (.clo 246 [])) [qc])) .loc (.op .no (.hard (.call (.lit (.clo 245 [])) [qc])) .loc (.op .no q7p .loc (.op .no qda .loc (.op .no (.soft qd2) .loc (.op .no (.softw qd 2 (.load 181 (.tmp 38)) (rfR 23 [38, 37, 36, 35, 34, 33, 32, 31, 30] [38])) .loc (.op .no (.hard (.call (.lit (.clo 248 [])) [qc])) .loc (.op .no (.hard (.call (.lit (.clo 247 [])) [qc])) .loc (.op .no q7p .loc (.op .no qda .loc (.op .no (.soft qgr) .loc (.op .no (.softw qd 4 (.load 50 (.tmp 44)) (rfR 23 [44, 43, 42, 41, 40, 39, 38, 37, 36, 35, 34, 33, 32, 31, 30] [44])) .loc (.op .no (.hard qce) .loc (.op .no (.hard qcf) .loc (.op .no q7p .loc (.op .no qda .loc (.op .no q1s .loc (.op .no (.softw q2u 6 (.load 59 (.tmp 24)) (rfR 23 [24, 23, 22, 47, 46, 45, 44, 43, 42, 41, 40, 39, 38, 37, 36, 35, 34, 33, 32, 31, 30] [24])) .loc (.op .no q7p .loc (.op .no qda .loc (.op .no q7c .loc (.op .no (.softw q2u 6 (.load 59 (.tmp 28)) (rfR 23 [28, 27, 26, 25, 24, 23, 22, 47, 46, 45, 44, 43, 42, 41, 40, 39, 38, 37, 36, 35, 34, 33, 32, 31, 30] [28])) .loc (.op .no (.soft (.bld [(.mk 0 3 qs), (.mk 3 3 qc), (.mk 6 1 (.loc (.s (.s qdm)))), (.mk 7 1 (.loc (.s qdl))), (.mk 8 1 q7t)] [(.int .i64 (.ofNat 0)), (.int .i64 (.ofNat 0)), (.int .u8 (.ofNat 0)), (.int .i64 (.ofNat 0)), (.int .i64 (.ofNat 0)), (.int .u8 (.ofNat 0)), (.con (.slice Option.none 0 0)), (.con (.slice Option.none 0 0)), (.con (.slice Option.none 0 0))])) .loc (.op .no (.hard (.st 9 q10 qc)) .non .fin)))))))))))))))))))))))))))) 0) .ret))))))
theorem cf182_ok : compF Go.Proofs.Tryz.prog xi182 = some cf182 := by kernel_rfl
noncomputable def xi183 := xiM 183 Go.Proofs.Tryz.f183 67547
theorem xi183_ok : TabOK Go.Proofs.Tryz.prog [xi183] := tabOK1 Go.Proofs.Tryz.func183 (by kernel_rfl) (by kernel_rfl) rfl rfl
noncomputable def cf183 : FnC := (.mk 67547 22 qan (.seq qao (.seq (.seq qbl (.block 0 (.loop (.seq q8f (.seq q8g (.seq (.block 1 (.seq (.rg (.op .no (.ias 4 q1m q2x) .loc (.op .no q73 .loc (.op .no q74 q1e qbm)))) (.seq (.rg (.op .no qfb .loc (.op .no q2u .loc (.op .no q6u .loc (.op .no qaq q26 .fin))))) (.cond q28 (.seq (.rg (.op .no (.fadr 3 q1g) .loc (.op .no qd .loc (.op .no qce .loc (.op .no qcf .loc q70))))) .ret) .skip)))) q8m)))))) qar)))
theorem cf183_ok : compF Go.Proofs.Tryz.prog xi183 = some cf183 := by kernel_rfl
noncomputable def xi184 := xiM 184 Go.Proofs.Tryz.f184 144860660952047
theorem xi184_ok : TabOK Go.Proofs.Tryz.prog [xi184] := tabOK1 Go.Proofs.Tryz.func184 (by kernel_rfl) (by kernel_rfl) rfl rfl
noncomputable def cf184 : FnC := (.mk 144860660952047 70 (.many [q4q, qaw, (.cell 1 false q2x)]) (.seq (.rg (.op .no (.box 183 q2) qz (.op .no (.box 50 q0) q1e (.op .no q6s q1l (.op .no q6s q2g (.op .no q32 q2w .fin)))))) (.seq (.rg (.op .no (.st 1 q2x qo) .non .fin)) (.seq (.rg (.op .no (.gen (.makeFunc (Fn.func 249) (Array.mk []) (Array.mk [(.tmp 5), (.tmp 8)])) (rfC 144860660952047 [])) .loc q3l)) (.seq (.seq (.rg (.op .no (.fadr 6 q10) .loc (.op .no qd q2m (.op .no (.len q2o) q2q (.op .no q6 q37 .fin))))) (.block 0 (.loop (.seq (.rg (.op .no (.bin .lss 3 q38 q2s) q5o .fin)) (.seq (.cond q69 .skip q1n) (.seq (.block 1 (.seq (.rg (.op .no (.ias 2 q2o q38) .loc (.op .no q1t .loc (.op .no (.alloc 347 [(.int .i64 (.ofNat 0)), (.int .i64 (.ofNat 0))]) q26 qa7)))) (.rg (.op .no q3r .loc (.op .no q3t .loc (.op .no qa8 .loc (.op .no qd .loc (.op .no (.fadr 1 q28) .loc (.op .no qd .loc (.op .no qcp .loc (.op .no q19 .loc (.op .no (.gen (.index 46 (.tmp 30) (.tmp 31)) (rfC 144860660952047 [31, 30, 29, 28, 27, 26, 25, 24])) .loc (.op .no (.call q42 [qc]) .loc (.op .no qfj .loc (.op .no (.app 50 3 1 8 q8p qc) .loc q3j))))))))))))))) (.rg (.op .no (.bin .add 3 q38 qe) .loc q5f)))))))) (.seq (.seq (.rg (.op .no (.fadr 7 q10) .loc (.op .no qd q5v qc6))) (.block 2 (.loop (.seq qc7 (.seq (.cond q52 .skip q7j) (.seq (.block 3 (.seq (.rg (.op .no (.ias 3 q5w q4v) .loc (.op .no q2u .loc (.op .no q8h q2d qbo)))) (.seq (.rg (.op .no (.fadr 0 q2e) .loc (.op .no qd .loc (.op .no q19 .loc (.op .no (.bin .eql 5 qi qc) q56 .fin))))) (.cond q57 (.seq (.rgd (.op .no qc8 .loc (.op .no (.soft (.fadr 1 q2e)) .loc (.op .no q60 .loc (.op .no qbr .loc (.op .no qc8 .loc (.op .no (.soft (.fadr 2 q2e)) .loc (.op .no (.softw qd 1 (.load 3 (.tmp 53)) (rfR 144860660952047 [53, 52, 51, 50, 49, 48] [53])) .loc (.op .no qbr .loc (.op .no (.soft (.mv qs)) q2j (.op .no q49 q2l .fin)))))))))) 0) (.rg (.op .no q2c .loc (.op .no q3v .loc (.op .no q3x .loc (.op .no (.gen (.call (Call.mk (Callee.builtin Builtin.min) (Array.mk [(.tmp 57), (.tmp 58)]) (Array.mk [3, 3]))) (rfC 144860660952047 [58, 57, 56])) .loc (.op .no q3v .loc (.op .no q3x .loc (.op .no (.gen (.call (Call.mk (Callee.builtin Builtin.max) (Array.mk [(.tmp 60), (.tmp 61)]) (Array.mk [3, 3]))) (rfC 144860660952047 [61, 60, 59, 58, 57, 56])) .loc (.op .no qcq .loc (.op .no (.bsl 46 1 2 [qc]) .loc (.op .no (.app 289 46 2 16 q7t qc) .loc q2b)))))))))))) .skip)))) qcb)))))) (.seq (.rgd (.op .no qab .loc (.op .no q78 .loc (.op .no (.soft (.ld 1 false q2x)) .loc (.op .no (.soft q54) q1l (.op .no (.soft q3p) q2g (.op .no (.hard (.st 1 q2x qc)) .non .fin)))))) 0) .ret)))))))
theorem cf184_ok : compF Go.Proofs.Tryz.prog xi184 = some cf184 := by kernel_rfl
noncomputable def xi185 := xiM 185 Go.Proofs.Tryz.f185 19
theorem xi185_ok : TabOK Go.Proofs.Tryz.prog [xi185] := tabOK1 Go.Proofs.Tryz.func185 (by kernel_rfl) (by kernel_rfl) rfl rfl
noncomputable def cf185 : FnC := (.mk 19 9 q1 (.seq qep (.seq (.rg (.op .no q18 .loc (.op .no q19 .loc (.op .no (.call (.lit (.clo 250 [])) [qi, qc]) .loc qer)))) .ret)))
theorem cf185_ok : compF Go.Proofs.Tryz.prog xi185 = some cf185 := by kernel_rfl
noncomputable def xi186 := xiM 186 Go.Proofs.Tryz.f186 7
theorem xi186_ok : TabOK Go.Proofs.Tryz.prog [xi186] := tabOK1 Go.Proofs.Tryz.func186 (by kernel_rfl) (by kernel_rfl) rfl rfl
noncomputable def cf186 : FnC := (.mk 7 6 q1 (.seq (.rg (.op .no (.box 186 q2) q4 qeo)) (.seq (.rg (.op .no qb .loc (.op .no qd .loc (.op .no (.bin .gtr 5 qc q3c) .loc q29)))) .ret)))
theorem cf186_ok : compF Go.Proofs.Tryz.prog xi186 = some cf186 := by kernel_rfl
noncomputable def xi187 := xiM 187 Go.Proofs.Tryz.f187 7
theorem xi187_ok : TabOK Go.Proofs.Tryz.prog [xi187] := tabOK1 Go.Proofs.Tryz.func187 (by kernel_rfl) (by kernel_rfl) rfl rfl
noncomputable def cf187 : FnC := (.mk 7 4 q1 (.seq (.rg (.op .no q3 q4 (.op .no (.mv (.lit (.con .nilFunc))) q7 .fin))) (.seq (.rg (.op .no (.gen (.makeFunc (Fn.func 251) (Array.mk []) (Array.mk [(.tmp 1)])) (rfC 7 [])) .loc q29)) .ret)))
theorem cf187_ok : compF Go.Proofs.Tryz.prog xi187 = some cf187 := by kernel_rfl
noncomputable def xi188 := xiM 188 Go.Proofs.Tryz.f188 5
theorem xi188_ok : TabOK Go.Proofs.Tryz.prog [xi188] := tabOK1 Go.Proofs.Tryz.func188 (by kernel_rfl) (by kernel_rfl) rfl rfl
noncomputable def cf188 : FnC := (.mk 5 9 q8s (.seq qbk (.seq (.rg (.op .no q18 .loc (.op .no q18 .loc (.op .no q3y .loc (.op .no q18 .loc (.op .no q3y .loc (.op .no (.gen (.slice 154 (.tmp 3) Option.none (Option.some (.tmp 5)) (Option.some (.tmp 7))) (rfC 5 [7, 6, 5, 4, 3])) .loc q8x))))))) .ret)))
theorem cf188_ok : compF Go.Proofs.Tryz.prog xi188 = some cf188 := by kernel_rfl
noncomputable def xi189 := xiM 189 Go.Proofs.Tryz.f189 1074036687
theorem xi189_ok : TabOK Go.Proofs.Tryz.prog [xi189] := tabOK1 Go.Proofs.Tryz.func189 (by kernel_rfl) (by kernel_rfl) rfl rfl
noncomputable def cf189 : FnC := (.mk 1074036687 43 (.many [qdu, q4q, qaw, (.tmp q2x)]) (.seq (.rg (.op .no q6p qz (.op .no qa6 q1e (.op .no q6 q1l (.op .no q39 q2g q8d))))) (.seq (.seq (.rg (.op .no q6v .loc (.op .no qc2 .loc q3l))) (.seq (.rg (.op .no q3t .loc qgo)) (.cond q2o (.seq (.rg (.op .no qe2 .loc (.op .no q3t .loc qgx))) .ret) .skip))) (.seq (.rg (.op .no q1p .loc (.op .no q1t .loc (.op .no q19 .loc (.op .no q8w .loc (.op .no qgy .loc (.op .no qf .loc (.op .no q22 .loc (.op .no q23 .loc (.op .no qa6 q26 (.op .no (.st 2 q28 qi) .non q3o))))))))))) (.seq (.seq (.rg (.op .no q3u .loc qc3)) (.cond q2s (.seq (.rg (.op .no qe2 .loc (.op .no q3u .loc qgx))) .ret) .skip)) (.seq (.rg (.op .no q5g .loc (.op .no qd .loc (.op .no (.ld 2 true q28) .loc (.op .no (.call (.lit (.clo 252 [])) [qi, qc]) .loc qfi))))) (.seq (.rg (.op .no (.ld 2 true q28) .loc (.op .no q3v .loc (.op .no q3x .loc (.op .no (.st 2 q1g qk) .non (.op .no q3p q1l (.op .no qf q2g q8d))))))) .ret)))))))
theorem cf189_ok : compF Go.Proofs.Tryz.prog xi189 = some cf189 := by kernel_rfl
noncomputable def xi190 := xiM 190 Go.Proofs.Tryz.f190 42535296023574879666274036850519702559
theorem xi190_ok : TabOK Go.Proofs.Tryz.prog [xi190] := tabOK1 Go.Proofs.Tryz.func190 (by kernel_rfl) (by kernel_rfl) rfl rfl
noncomputable def cf190 : FnC := (.mk 42535296023574879666274036850519702559 148 q8c (.seq qdi (.seq qfm (.block 0 (.loop (.block 1 (.seq qfo (.seq (.seq qfp (.cond q69 (.seq (.rg (.op .no q18 .loc (.op .no q19 .loc (.op .no q8w .loc (.op .no q1h .loc (.op .no (.call (.lit (.clo 253 [])) [qn, qk, qi, qc]) .loc .fin)))))) .ret) .skip)) (.seq (.seq qfr (.cond q5w (.seq (.rg (.op .no q18 .loc (.op .no q19 .loc (.op .no q8w .loc (.op .no q1h .loc (.op .no (.call (.lit (.clo 254 [])) [qn, qk, qi, qc]) .loc .fin)))))) .ret) .skip)) (.seq (.seq qfs (.cond q6k (.seq (.rg (.op .no q18 .loc (.op .no q19 .loc (.op .no q8w .loc (.op .no q1h .loc (.op .no (.call (.lit (.clo 255 [])) [qn, qk, qi, qc]) .loc .fin)))))) qft) .skip)) (.seq (.rg (.op .no q18 .loc (.op .no q19 .loc (.op .no q8w .loc (.op .no q1h .loc (.op .no (.call (.lit (.clo 256 [])) [qn, qk, qi, qc]) .loc qc4)))))) (.seq (.seq qfu (.cond q4v (.seq (.rg (.op .no q18 .loc (.op .no q19 .loc (.op .no q8w .loc (.op .no q1h .loc (.op .no (.call (.lit (.clo 257 [])) [qn, qk, qi, qc]) .loc .fin)))))) qfw) .skip)) (.seq (.seq qfy (.cond q52 (.seq (.rg (.op .no q18 .loc (.op .no q19 .loc (.op .no q8w .loc (.op .no q1h .loc (.op .no (.call (.lit (.clo 258 [])) [qn, qk, qi, qc]) q56 .fin)))))) qfz) .skip)) (.seq (.seq qgz (.cond q59 (.seq (.rg (.op .no q18 .loc (.op .no q19 .loc (.op .no q8w .loc (.op .no q3t .loc (.op .no q1h .loc (.op .no (.call (.lit (.clo 259 [])) [qs, qn, qk, qi, qc]) .loc q3o))))))) qgd) .skip)) (.seq (.rg (.op .no q18 .loc (.op .no q19 .loc (.op .no q8w .loc (.op .no q3t .loc (.op .no q1h .loc (.op .no (.call (.lit (.clo 260 [])) [qs, qn, qk, qi, qc]) .loc qfi))))))) (.seq qge (.seq qgf (.seq qgg (.seq qgh (.cond q5j (.seq qgk (.seq (.rg (.op .no q18 .loc (.op .no q19 .loc (.op .no q3v .loc (.op .no q76 .loc (.op .no q1h .loc (.op .no (.call qe8 [qs, qn, qk, qi, qc]) .loc .fin))))))) qgl)) (.seq qgm (.seq (.rg (.op .no q18 .loc (.op .no q3v .loc (.op .no q1x .loc (.op .no q8w .loc (.op .no q76 .loc (.op .no q1h .loc (.op .no (.call qe8 [qv, qn, qk, qi, qc]) .loc .fin)))))))) qgn))))))))))))))))))))))
theorem cf190_ok : compF Go.Proofs.Tryz.prog xi190 = some cf190 := by kernel_rfl
noncomputable def xi192 := xiM 192 Go.Proofs.Tryz.f192 136323135
theorem xi192_ok : TabOK Go.Proofs.Tryz.prog [xi192] := tabOK1 Go.Proofs.Tryz.func192 (by kernel_rfl) (by kernel_rfl) rfl rfl
noncomputable def cf192 : FnC := (.mk 136323135 33 qck (.seq (.rg (.op .no q9m q7 (.op .no (.box 300 qa) qz q1f))) (.seq (.seq (.rg (.op .no q3f .loc (.op .no qal .loc (.op .no q25 .loc (.op .no qf .loc (.op qg qb2 .loc (.op qj (.call (.lit (.clo 261 [])) [qc]) .loc (.op ql q25 .loc (.op .no qp q2g .fin))))))))) (.cond q2h (.seq (.rg q1f) .ret) .skip)) (.seq (.seq (.rgd (.op .no (.hard (.call (.lit (.clo 262 [])) [])) .loc (.op .no q7r .loc (.op .no (.softw qd 1 (.load 41 (.tmp 15)) (rfR 136323135 [15, 14] [15])) .loc (.op .no (.soft (.gen (.index 369 (.tmp 14) (.tmp 16)) (rfR 136323135 [16, 15, 14] [14, 16]))) .loc (.op .no (.soft (.gen (.field 368 (.tmp 17) 0) (rfR 136323135 [17, 16, 15, 14] [17]))) .loc (.op .no (.softw qb2 1 (.load 300 (.tmp 3)) (rfR 136323135 [18, 17, 16, 15, 14] [3])) .loc (.op .no (.hard (.call qi [qc])) .loc qh0))))))) 0) (.block 0 (.seq (.rg (.op .no q2c .loc (.op .no qcn .loc (.op .no qd .loc (.op .no q9n .loc (.op .no (.bin .lss 3 qn qc) .loc q4y)))))) (.cond q2x (.seq (.rg (.op .no (.mv q4e) q1e .fin)) .ret) (.seq (.rg (.op .no q2c .loc (.op .no qcn .loc (.op .no qd .loc (.op .no q9n .loc (.op .no (.bin .gtr 3 qn qc) .loc q3l)))))) (.cond q34 (.seq qei .ret) .skip)))))) (.seq (.rg q1f) .ret)))))
theorem cf192_ok : compF Go.Proofs.Tryz.prog xi192 = some cf192 := by kernel_rfl
noncomputable def xi193 := xiM 193 Go.Proofs.Tryz.f193 66483
theorem xi193_ok : TabOK Go.Proofs.Tryz.prog [xi193] := tabOK1 Go.Proofs.Tryz.func193 (by kernel_rfl) (by kernel_rfl) rfl rfl
noncomputable def cf193 : FnC := (.mk 66483 19 q1 (.seq q15 (.seq (.seq qev (.block 0 (.loop (.seq qew (.seq qed (.seq (.block 1 (.seq qex (.seq (.rg (.op .no q19 .loc (.op .no q18 .loc (.op .no q76 .loc (.op .no q9h .loc (.op .no qd .loc qey)))))) qf0))) qf1)))))) q91)))
theorem cf193_ok : compF Go.Proofs.Tryz.prog xi193 = some cf193 := by kernel_rfl
noncomputable def xi195 := xiM 195 Go.Proofs.Tryz.f195 42535296023574879666274036850519702559
theorem xi195_ok : TabOK Go.Proofs.Tryz.prog [xi195] := tabOK1 Go.Proofs.Tryz.func195 (by kernel_rfl) (by kernel_rfl) rfl rfl
noncomputable def cf195 : FnC := (.mk 42535296023574879666274036850519702559 148 q8c (.seq qdi (.seq qfm (.block 0 (.loop (.block 1 (.seq qfo (.seq (.seq qfp (.cond q69 (.seq (.rg (.op .no q18 .loc (.op .no q19 .loc (.op .no q8w .loc (.op .no q1h .loc (.op .no (.call (.lit (.clo 263 [])) [qn, qk, qi, qc]) .loc .fin)))))) .ret) .skip)) (.seq (.seq qfr (.cond q5w (.seq (.rg (.op .no q18 .loc (.op .no q19 .loc (.op .no q8w .loc (.op .no q1h .loc (.op .no (.call (.lit (.clo 264 [])) [qn, qk, qi, qc]) .loc .fin)))))) .ret) .skip)) (.seq (.seq qfs (.cond q6k (.seq (.rg (.op .no q18 .loc (.op .no q19 .loc (.op .no q8w .loc (.op .no q1h .loc (.op .no (.call (.lit (.clo 265 [])) [qn, qk, qi, qc]) .loc .fin)))))) qft) .skip)) (.seq (.rg (.op .no q18 .loc (.op .no q19 .loc (.op .no q8w .loc (.op .no q1h .loc (.op .no (.call (.lit (.clo 266 [])) [qn, qk, qi, qc]) .loc qc4)))))) (.seq (.seq qfu (.cond q4v (.seq (.rg (.op .no q18 .loc (.op .no q19 .loc (.op .no q8w .loc (.op .no q1h .loc (.op .no (.call (.lit (.clo 267 [])) [qn, qk, qi, qc]) .loc .fin)))))) qfw) .skip)) (.seq (.seq qfy (.cond q52 (.seq (.rg (.op .no q18 .loc (.op .no q19 .loc (.op .no q8w .loc (.op .no q1h .loc (.op .no (.call (.lit (.clo 268 [])) [qn, qk, qi, qc]) q56 .fin)))))) qfz) .skip)) (.seq (.seq qh1 (.cond q59 (.seq (.rg (.op .no q18 .loc (.op .no q19 .loc (.op .no q8w .loc (.op .no q3t .loc (.op .no q1h .loc (.op .no (.call (.lit (.clo 269 [])) [qs, qn, qk, qi, qc]) .loc q3o))))))) qgd) .skip)) (.seq (.rg (.op .no q18 .loc (.op .no q19 .loc (.op .no q8w .loc (.op .no q3t .loc (.op .no q1h .loc (.op .no (.call (.lit (.clo 270 [])) [qs, qn, qk, qi, qc]) .loc qfi))))))) (.seq qge (.seq qgf (.seq qgg (.seq qgh (.cond q5j (.seq qgk (.seq (.rg (.op .no q18 .loc (.op .no q19 .loc (.op .no q3v .loc (.op .no q76 .loc (.op .no q1h .loc (.op .no (.call qes [qs, qn, qk, qi, qc]) .loc .fin))))))) qgl)) (.seq qgm (.seq (.rg (.op .no q18 .loc (.op .no q3v .loc (.op .no q1x .loc (.op .no q8w .loc (.op .no q76 .loc (.op .no q1h .loc (.op .no (.call qes [qv, qn, qk, qi, qc]) .loc .fin)))))))) qgn))))))))))))))))))))))
theorem cf195_ok : compF Go.Proofs.Tryz.prog xi195 = some cf195 := by kernel_rfl
noncomputable def xi202 := xiM 202 Go.Proofs.Tryz.f202 5
theorem xi202_ok : TabOK Go.Proofs.Tryz.prog [xi202] := tabOK1 Go.Proofs.Tryz.func202 (by kernel_rfl) (by kernel_rfl) rfl rfl
noncomputable def cf202 : FnC := (.mk 5 9 q8s (.seq qe3 (.seq (.rg (.op .no q18 .loc (.op .no (.bin .lss 3 qc (.lit (.int .i64 (Int.negSucc 16383)))) .loc (.op .no qf .loc (.op qg q18 .loc (.op qj (.bin .gtr 3 qc (.lit (.int .i64 (.ofNat 16384)))) .loc (.op .no q3s .loc q8x))))))) .ret)))
theorem cf202_ok : compF Go.Proofs.Tryz.prog xi202 = some cf202 := by kernel_rfl
noncomputable def xi214 := xiM 214 Go.Proofs.Tryz.f214 18014433942971335
theorem xi214_ok : TabOK Go.Proofs.Tryz.prog [xi214] := tabOK1 Go.Proofs.Tryz.func214 (by kernel_rfl) (by kernel_rfl) rfl rfl
noncomputable def cf214 : FnC := (.mk 18014433942971335 63 q8c (.seq (.rg (.op .no (.mv (.lit (.int .i64 (.ofNat 20)))) qz .fin)) (.seq (.rg (.op .no q76 .loc qby)) (.seq (.block 0 (.loop (.seq (.seq (.rg (.op .no q2c .loc (.op .no q19 .loc (.op .no qh2 q2w .fin)))) q85) (.block 1 (.seq (.rg (.op .no q18 .loc (.op .no q1h .loc (.op .no q2c .loc (.op .no q8w .loc qfq))))) (.seq qh3 (.rg (.op .no q2c .loc (.op .no q76 .loc (.op .no qh4 .loc q2b)))))))))) (.seq (.rg (.op .no q18 .loc (.op .no q1h .loc (.op .no q19 .loc (.op .no q8w .loc qfq))))) (.block 2 (.loop (.seq (.seq (.rg (.op .no q76 .loc q98)) qej) (.block 3 (.seq (.rg (.op .no q76 .loc (.op .no q9n .loc qby))) (.seq (.block 4 (.loop (.seq (.seq (.rg (.op .no q2c .loc (.op .no q19 .loc (.op .no qh2 q26 .fin)))) (.cond q28 .skip qcz)) (.block 5 (.seq (.rg (.op .no q18 .loc (.op .no q1h .loc (.op .no q1h .loc (.op .no q76 .loc (.op .no qh4 .loc (.op .no q2c .loc (.op .no q8w .loc (.op .no (.call (.lit (.clo 274 [])) [qx, qv, qk, qi, qc]) .loc .fin))))))))) (.seq qh3 (.rg (.op .no q2c .loc (.op .no q76 .loc (.op .no q9n .loc (.op .no qcc .loc q2b))))))))))) (.seq (.seq (.rg (.op .no q1h .loc (.op .no q76 .loc (.op .no qh4 .loc q3j)))) (.seq (.rg (.op .no q3r .loc (.op .no q19 .loc (.op .no q97 q2d .fin)))) (.cond q2e (.rg (.op .no q18 .loc (.op .no q1h .loc (.op .no q3r .loc (.op .no q19 .loc (.op .no q8w .loc (.op .no (.call (.lit (.clo 274 [])) [qs, qn, qk, qi, qc]) .loc .fin))))))) .skip))) (.rg (.op .no q76 .loc (.op .no (.bin .mul 3 qc q3b) .loc q70)))))))))))))))
theorem cf214_ok : compF Go.Proofs.Tryz.prog xi214 = some cf214 := by kernel_rfl
noncomputable def xi215 := xiM 215 Go.Proofs.Tryz.f215 23
theorem xi215_ok : TabOK Go.Proofs.Tryz.prog [xi215] := tabOK1 Go.Proofs.Tryz.func215 (by kernel_rfl) (by kernel_rfl) rfl rfl
noncomputable def cf215 : FnC := (.mk 23 17 qan (.seq (.rg (.op .no q3 q7 (.op .no q39 qz .fin))) (.seq (.rg (.op .no q19 .loc (.op .no qeq .loc (.op .no qf .loc (.op q4g q19 .loc (.op q4i q6g .loc (.op q4j qd .loc (.op q4l q1j .loc (.op q4m qcn .loc (.op qg2 qd .loc (.op qg4 qu .loc (.op qg5 (.bin .lss 3 qx qc) .loc (.op .no (.pick q7t qc q35) .loc q70))))))))))))) .ret)))
theorem cf215_ok : compF Go.Proofs.Tryz.prog xi215 = some cf215 := by kernel_rfl
noncomputable def xi216 := xiM 216 Go.Proofs.Tryz.f216 23
theorem xi216_ok : TabOK Go.Proofs.Tryz.prog [xi216] := tabOK1 Go.Proofs.Tryz.func216 (by kernel_rfl) (by kernel_rfl) rfl rfl
noncomputable def cf216 : FnC := (.mk 23 19 (.one (.cell 3 true q10)) (.seq (.rg (.op .no q3 q7 (.op .no q7o qz .fin))) (.seq (.rgd (.op .no q7p .loc (.op .no (.soft q7q) .loc (.op .no q7r .loc (.op .no q60 .loc (.op .no (.soft (.bin .rem 3 qk qc)) .loc (.op .no q7p .loc (.op .no (.soft q7q) .loc (.op .no q7r .loc (.op .no q60 .loc (.op .no (.soft (.bin .quo 3 qk qc)) .loc (.op .no q7p .loc (.op .no (.soft (.bin .rem 3 qc q1i)) .loc (.op .no (.soft (.gen (.convert 3 5 (.tmp 16)) (rfR 23 [16, 15, 14, 13, 12, 11, 10, 9, 8, 7, 6, 5] [16]))) .loc (.op .no (.soft (.bld [(.mk 0 1 q7t), (.mk 1 1 qn), q7u] [(.int .i64 (.ofNat 0)), (.int .i64 (.ofNat 0)), (.int .u8 (.ofNat 0))])) .loc (.op .no (.hard q7v) .non .fin))))))))))))))) 0) .ret)))
theorem cf216_ok : compF Go.Proofs.Tryz.prog xi216 = some cf216 := by kernel_rfl
noncomputable def xi217 := xiM 217 Go.Proofs.Tryz.f217 19
theorem xi217_ok : TabOK Go.Proofs.Tryz.prog [xi217] := tabOK1 Go.Proofs.Tryz.func217 (by kernel_rfl) (by kernel_rfl) rfl rfl
noncomputable def cf217 : FnC := (.mk 19 9 q1 (.seq qep (.seq (.rg (.op .no q18 .loc (.op .no q19 .loc (.op .no (.call (.lit (.clo 275 [])) [qi, qc]) .loc qer)))) .ret)))
theorem cf217_ok : compF Go.Proofs.Tryz.prog xi217 = some cf217 := by kernel_rfl
noncomputable def xi218 := xiM 218 Go.Proofs.Tryz.f218 7
theorem xi218_ok : TabOK Go.Proofs.Tryz.prog [xi218] := tabOK1 Go.Proofs.Tryz.func218 (by kernel_rfl) (by kernel_rfl) rfl rfl
noncomputable def cf218 : FnC := (.mk 7 7 q1 (.seq (.rg (.op .no qf5 q4 qeo)) (.seq (.rg (.op .no qav .loc (.op .no qd .loc (.op .no (.call (.lit (.clo 219 [])) [qc]) .loc (.op .no q6d .loc q29))))) .ret)))
theorem cf218_ok : compF Go.Proofs.Tryz.prog xi218 = some cf218 := by kernel_rfl
noncomputable def xi219 := xiM 219 Go.Proofs.Tryz.f219 5
theorem xi219_ok : TabOK Go.Proofs.Tryz.prog [xi219] := tabOK1 Go.Proofs.Tryz.func219 (by kernel_rfl) (by kernel_rfl) rfl rfl
noncomputable def cf219 : FnC := (.mk 5 9 q8s (.seq qe3 (.seq (.rg (.op .no q18 .loc (.op .no (.bin .geq 60 qc q3c) .loc (.op .no qf .loc (.op q4g q18 .loc (.op q4i (.bin .leq 60 qc q3m) .loc (.op .no qfx .loc q8x))))))) .ret)))
theorem cf219_ok : compF Go.Proofs.Tryz.prog xi219 = some cf219 := by kernel_rfl
noncomputable def xi220 := xiM 220 Go.Proofs.Tryz.f220 263119
theorem xi220_ok : TabOK Go.Proofs.Tryz.prog [xi220] := tabOK1 Go.Proofs.Tryz.func220 (by kernel_rfl) (by kernel_rfl) rfl rfl
noncomputable def cf220 : FnC := (.mk 263119 26 (.many [qdu, q4q]) (.seq (.rg (.op .no q3 qz (.op .no qa6 q1e q4r))) (.seq (.rg (.op .no qb2 .loc (.op .no q19 .loc (.op .no q8w .loc (.op .no qdy .loc q77))))) (.seq (.seq qh5 (.cond q34 (.seq (.rg (.op .no qe2 .loc (.op .no q4z .loc qh6))) .ret) .skip)) (.seq (.rg (.op .no q19 .loc (.op .no q3r .loc (.op .no (.gen (.call (Call.mk (Callee.builtin Builtin.min) (Array.mk [(.tmp 21), (.tmp 22)]) (Array.mk [3, 3]))) (rfC 263119 [22, 21])) .loc (.op .no q8w .loc (.op .no qdz .loc (.op .no (.st 2 q1g qc) .non q4r))))))) .ret)))))
theorem cf220_ok : compF Go.Proofs.Tryz.prog xi220 = some cf220 := by kernel_rfl
noncomputable def xi221 := xiM 221 Go.Proofs.Tryz.f221 7
theorem xi221_ok : TabOK Go.Proofs.Tryz.prog [xi221] := tabOK1 Go.Proofs.Tryz.func221 (by kernel_rfl) (by kernel_rfl) rfl rfl
noncomputable def cf221 : FnC := (.mk 7 8 qh7 (.seq (.rg (.op .no qf5 q4 (.op .no qa6 q7 .fin))) (.seq (.rg (.op .no qb .loc (.op .no qd .loc (.op .no qh .loc (.op .no qd .loc (.op .no q2z .loc q3e)))))) .ret)))
theorem cf221_ok : compF Go.Proofs.Tryz.prog xi221 = some cf221 := by kernel_rfl
noncomputable def xi222 := xiM 222 Go.Proofs.Tryz.f222 543
theorem xi222_ok : TabOK Go.Proofs.Tryz.prog [xi222] := tabOK1 Go.Proofs.Tryz.func222 (by kernel_rfl) (by kernel_rfl) rfl rfl
noncomputable def cf222 : FnC := (.mk 543 22 qck (.seq (.rg (.op .no (.box 107 q2) q7 (.op .no qh8 qz q1f))) (.seq (.seq (.rg (.op .no q6g .loc (.op .no qd .loc (.op .no q1p .loc (.op .no qd .loc (.op .no (.bin .neq 3 qk qc) q1l .fin)))))) (.cond q1m (.seq (.rg (.op .no q6g .loc (.op .no qd .loc (.op .no q1p .loc (.op .no qd .loc (.op .no qfk .loc q1y)))))) .ret) .skip)) (.seq (.rg (.op .no qcn .loc (.op .no qd .loc (.op .no (.gen (.convert 5 3 (.tmp 16)) (rfC 543 [16, 15])) .loc (.op .no qco .loc (.op .no qd .loc (.op .no (.gen (.convert 5 3 (.tmp 19)) (rfC 543 [19, 18, 17, 16, 15])) .loc (.op .no qfv .loc q1y)))))))) .ret))))
theorem cf222_ok : compF Go.Proofs.Tryz.prog xi222 = some cf222 := by kernel_rfl
noncomputable def xi223 := xiM 223 Go.Proofs.Tryz.f223 30767
theorem xi223_ok : TabOK Go.Proofs.Tryz.prog [xi223] := tabOK1 Go.Proofs.Tryz.func223 (by kernel_rfl) (by kernel_rfl) rfl rfl
noncomputable def cf223 : FnC := (.mk 30767 25 q1 (.seq (.rg (.op .no q6p q4 (.op .no (.mv (.lit (.con (.map Option.none)))) q7 .fin))) (.seq (.rg (.op .no qav .loc (.op .no qd .loc (.op .no q3y .loc (.op .no (.gen (.makeMap 329 (Option.some (.tmp 8))) (rfC 30767 [8, 7, 6])) .loc q70))))) (.seq (.seq (.rg (.op .no qav .loc (.op .no qd q1l q8e))) (.block 0 (.loop (.seq q8f (.seq q8g (.seq (.block 1 (.seq (.rg (.op .no (.ias 3 q1m q2x) .loc qfa)) (.rg (.op .no q76 .loc (.op .no qfb .loc (.op .no qd .loc (.op .no (.fadr 1 q1g) .loc (.op .no qd .loc (.op .no q2z .loc (.op .no (.gen (.mapUpdate 329 (.tmp 17) (.tmp 22) (.const (.bool true))) (rfC 30767 [22, 21, 20, 19, 18, 17])) .non .fin)))))))))) q8m)))))) qez))))
theorem cf223_ok : compF Go.Proofs.Tryz.prog xi223 = some cf223 := by kernel_rfl
noncomputable def xi224 := xiM 224 Go.Proofs.Tryz.f224 134239647
theorem xi224_ok : TabOK Go.Proofs.Tryz.prog [xi224] := tabOK1 Go.Proofs.Tryz.func224 (by kernel_rfl) (by kernel_rfl) rfl rfl
noncomputable def cf224 : FnC := (.mk 134239647 54 (.one (.cell 3 true q1m)) (.seq (.rg (.op .no q5d q1l .fin)) (.seq (.rg (.op .no q6g .loc (.op .no q1t .loc (.op .no q18 .loc (.op .no q19 .loc (.op .no qgy .loc (.op .no qf .loc (.op .no q22 .loc (.op .no q23 .loc (.op .no qa6 q2g (.op .no (.st 2 q2h qi) .non q5e))))))))))) (.seq (.seq (.rg (.op .no q8o .loc (.op .no (.ld 2 true q2h) .loc (.op .no (.gen (.lookup 329 (.tmp 24) (.tmp 25) false) (rfC 134239647 [25, 24])) .loc (.op .no q6d q2d .fin))))) (.cond q2e (.seq (.rg (.op .no (.ld 1 false q1g) .loc (.op .no q18 .loc (.op .no qaf .loc (.op .no q2u .loc qh9))))) .ret) .skip)) (.seq (.rg (.op .no q6g .loc (.op .no q1t .loc (.op .no (.ld 2 true q2h) .loc (.op .no (.call (.lit (.clo 225 [])) [qi, qc]) .loc (.op .no qf .loc (.op .no q22 .loc (.op .no q23 .loc (.op .no q3d q2w (.op .no (.st 2 q2x qi) .non q5e)))))))))) (.seq (.rg (.op .no (.ld 2 true q2x) .loc (.op .no q5c .loc (.op .no qf .loc (.op .no q22 .loc (.op .no q23 .loc (.op .no q5d q33 (.op .no qbi .non q5e)))))))) (.seq (.rgd (.op .no (.soft qbj) .loc (.op .no (.soft (.ld 1 false q1g)) .loc (.op .no qap .loc (.op .no qag .loc (.op .no qad .loc (.op .no (.hard (.call (.lit (.clo 58 [])) [qs, qc])) .loc (.op .no q49 .loc (.op .no q5m .loc (.op .no (.alloc 28 [(.int .u8 (.ofNat 0)), (.int .i64 (.ofNat 0)), (.int .i64 (.ofNat 0))] 0) q26 (.op .no (.hard (.st 3 q28 qc)) .non qgq)))))))))) 2) (.seq (.rg (.op .no (.ld 3 true q28) .loc qh9)) .ret))))))))
theorem cf224_ok : compF Go.Proofs.Tryz.prog xi224 = some cf224 := by kernel_rfl
noncomputable def xi225 := xiM 225 Go.Proofs.Tryz.f225 33023
theorem xi225_ok : TabOK Go.Proofs.Tryz.prog [xi225] := tabOK1 Go.Proofs.Tryz.func225 (by kernel_rfl) (by kernel_rfl) rfl rfl
noncomputable def cf225 : FnC := (.mk 33023 24 (.many [qdu, q4q]) (.seq (.rg (.op .no q3 q7 (.op .no qh8 qz (.op .no q3d q1e q4r)))) (.seq (.rg (.op .no q3f .loc (.op .no qb2 .loc (.op .no (.call (.lit (.clo 276 [])) [qi, qc]) .loc qbx)))) (.seq (.seq qh5 (.cond q34 (.seq (.rg (.op .no (.bld [] [(.int .u8 (.ofNat 0)), (.int .i64 (.ofNat 0))]) .loc (.op .no q4z .loc qh6))) .ret) .skip)) (.seq (.rg (.op .no qbz .loc (.op .no qco .loc (.op .no qd .loc (.op .no (.call (.lit (.clo 107 [])) [qk, qc]) .loc (.op .no q22 .loc (.op .no q23 .loc qh6))))))) .ret)))))
theorem cf225_ok : compF Go.Proofs.Tryz.prog xi225 = some cf225 := by kernel_rfl
noncomputable def xi226 := xiM 226 Go.Proofs.Tryz.f226 17179886351
theorem xi226_ok : TabOK Go.Proofs.Tryz.prog [xi226] := tabOK1 Go.Proofs.Tryz.func226 (by kernel_rfl) (by kernel_rfl) rfl rfl
noncomputable def cf226 : FnC := (.mk 17179886351 53 q8c (.seq qha (.block 0 (.loop (.seq qhb (.seq (.block 1 (.seq qhc (.block 2 (.loop (.seq (.seq (.rgd (.op .no qab .loc (.op .no q7p .loc (.op .no qhd .loc (.op .no q49 .loc (.op q4g qek .loc (.op q4i qap .loc (.op q4j qab .loc (.op q4l q7a .loc (.op q4m qg3 .loc (.op qg2 qap .loc (.op qg4 qab .loc (.op qg5 qeg .loc (.op qg6 qg1 .loc (.op qg7 qg3 .loc qhg)))))))))))))) 0) qhh) (.seq (.block 3 (.rgd (.op .no qap .loc (.op .no qab .loc (.op .no qap .loc (.op .no qab .loc (.op .no qeg .loc (.op .no qg1 .loc (.op .no qg3 .loc (.op .no qap .loc (.op .no qab .loc (.op .no q7a .loc (.op .no qg3 .loc (.op .no (.soft (.ias 4 q8p qet)) .loc (.op .no (.hard (.st 4 qc qv)) .non (.op .no qap .loc (.op .no qab .loc (.op .no qhi .loc (.op .no qg1 .loc (.op .no (.hard (.st 4 qc qv)) .non .fin)))))))))))))))))) 0)) qhj)))))) q1z))))))
theorem cf226_ok : compF Go.Proofs.Tryz.prog xi226 = some cf226 := by kernel_rfl
noncomputable def xi235 := xiM 235 Go.Proofs.Tryz.f235 16661
theorem xi235_ok : TabOK Go.Proofs.Tryz.prog [xi235] := tabOK1 Go.Proofs.Tryz.func235 (by kernel_rfl) (by kernel_rfl) rfl rfl
noncomputable def cf235 : FnC := (.mk 16661 25 q8s (.seq q8t (.seq (.seq (.rg (.op .no q18 .loc (.op .no (.bin .geq 343 qc (.lit (.int .u64 (.ofNat 4294967296)))) q7 .fin))) (.cond q0 (.seq (.rg (.op .no q18 .loc (.op .no (.bin .shr 343 qc (.lit (.int .u64 (.ofNat 32)))) .loc q4p))) (.rg (.op .no (.mv (.lit (.int .i64 (.ofNat 32)))) q4 .fin))) .skip)) (.seq (.seq (.rg (.op .no q18 .loc (.op .no (.bin .geq 343 qc (.lit (.int .u64 (.ofNat 65536)))) qz .fin))) (.cond q10 (.seq (.rg (.op .no q18 .loc (.op .no (.bin .shr 343 qc (.lit (.int .u64 (.ofNat 16)))) .loc q4p))) (.rg (.op .no q19 .loc (.op .no (.bin .add 3 qc (.lit (.int .i64 (.ofNat 16)))) .loc q8x)))) .skip)) (.seq (.seq (.rg (.op .no q18 .loc (.op .no (.bin .geq 343 qc (.lit (.int .u64 (.ofNat 256)))) q1e .fin))) (.cond q1g (.seq (.rg (.op .no q18 .loc (.op .no (.bin .shr 343 qc (.lit (.int .u64 (.ofNat 8)))) .loc q4p))) (.rg (.op .no q19 .loc (.op .no (.bin .add 3 qc qf2) .loc q8x)))) .skip)) (.seq (.rg (.op .no q19 .loc (.op .no q18 .loc (.op .no (.gen (.convert 343 5 (.tmp 20)) (rfC 16661 [20, 19])) .loc (.op .no (.gen (.index 9 (.const (.string (ByteArray.mk (Array.mk [(UInt8.ofNat 0), (UInt8.ofNat 1), (UInt8.ofNat 2), (UInt8.ofNat 2), (UInt8.ofNat 3), (UInt8.ofNat 3), (UInt8.ofNat 3), (UInt8.ofNat 3), (UInt8.ofNat 4), (UInt8.ofNat 4), (UInt8.ofNat 4), (UInt8.ofNat 4), (UInt8.ofNat 4), (UInt8.ofNat 4), (UInt8.ofNat 4), (UInt8.ofNat 4), (UInt8.ofNat 5), (UInt8.ofNat 5), (UInt8.ofNat 5), (UInt8.ofNat 5), (UInt8.ofNat 5), (UInt8.ofNat 5), (UInt8.ofNat 5), (UInt8.ofNat 5), (UInt8.ofNat 5), (UInt8.ofNat 5), (UInt8.ofNat 5), (UInt8.ofNat 5), (UInt8.ofNat 5), (UInt8.ofNat 5), (UInt8.ofNat 5), (UInt8.ofNat 5), (UInt8.ofNat 6), (UInt8.ofNat 6), (UInt8.ofNat 6), (UInt8.ofNat 6), (UInt8.ofNat 6), (UInt8.ofNat 6), (UInt8.ofNat 6), (UInt8.ofNat 6), (UInt8.ofNat 6), (UInt8.ofNat 6), (UInt8.ofNat 6), (UInt8.ofNat 6), (UInt8.ofNat 6), (UInt8.ofNat 6), (UInt8.ofNat 6), (UInt8.ofNat 6), (UInt8.ofNat 6), (UInt8.ofNat 6), (UInt8.ofNat 6), (UInt8.ofNat 6), (UInt8.ofNat 6), (UInt8.ofNat 6), (UInt8.ofNat 6), (UInt8.ofNat 6), (UInt8.ofNat 6), (UInt8.ofNat 6), (UInt8.ofNat 6), (UInt8.ofNat 6), (UInt8.ofNat 6), (UInt8.ofNat 6), (UInt8.ofNat 6), (UInt8.ofNat 6), (UInt8.ofNat 7), (UInt8.ofNat 7), (UInt8.ofNat 7), (UInt8.ofNat 7), (UInt8.ofNat 7), (UInt8.ofNat 7), (UInt8.ofNat 7), (UInt8.ofNat 7), (UInt8.ofNat 7), (UInt8.ofNat 7), (UInt8.ofNat 7), (UInt8.ofNat 7), (UInt8.ofNat 7), (UInt8.ofNat 7), (UInt8.ofNat 7), (UInt8.ofNat 7), (UInt8.ofNat 7), (UInt8.ofNat 7), (UInt8.ofNat 7), (UInt8.ofNat 7), (UInt8.ofNat 7), (UInt8.ofNat 7), (UInt8.ofNat 7), (UInt8.ofNat 7), (UInt8.ofNat 7), (UInt8.ofNat 7), (UInt8.ofNat 7), (UInt8.ofNat 7), (UInt8.ofNat 7), (UInt8.ofNat 7), (UInt8.ofNat 7), (UInt8.ofNat 7), (UInt8.ofNat 7), (UInt8.ofNat 7), (UInt8.ofNat 7), (UInt8.ofNat 7), (UInt8.ofNat 7), (UInt8.ofNat 7), (UInt8.ofNat 7), (UInt8.ofNat 7), (UInt8.ofNat 7), (UInt8.ofNat 7), (UInt8.ofNat 7), (UInt8.ofNat 7), (UInt8.ofNat 7), (UInt8.ofNat 7), (UInt8.ofNat 7), (UInt8.ofNat 7), (UInt8.ofNat 7), (UInt8.ofNat 7), (UInt8.ofNat 7), (UInt8.ofNat 7), (UInt8.ofNat 7), (UInt8.ofNat 7), (UInt8.ofNat 7), (UInt8.ofNat 7), (UInt8.ofNat 7), (UInt8.ofNat 7), (UInt8.ofNat 7), (UInt8.ofNat 7), (UInt8.ofNat 7), (UInt8.ofNat 7), (UInt8.ofNat 7), (UInt8.ofNat 7), (UInt8.ofNat 8), (UInt8.ofNat 8), (UInt8.ofNat 8), (UInt8.ofNat 8), (UInt8.ofNat 8), (UInt8.ofNat 8), (UInt8.ofNat 8), (UInt8.ofNat 8), (UInt8.ofNat 8), (UInt8.ofNat 8), (UInt8.ofNat 8), (UInt8.ofNat 8), (UInt8.ofNat 8), (UInt8.ofNat 8), (UInt8.ofNat 8), (UInt8.ofNat 8), (UInt8.ofNat 8), (UInt8.ofNat 8), (UInt8.ofNat 8), (UInt8.ofNat 8), (UInt8.ofNat 8), (UInt8.ofNat 8), (UInt8.ofNat 8), (UInt8.ofNat 8), (UInt8.ofNat 8), (UInt8.ofNat 8), (UInt8.ofNat 8), (UInt8.ofNat 8), (UInt8.ofNat 8), (UInt8.ofNat 8), (UInt8.ofNat 8), (UInt8.ofNat 8), (UInt8.ofNat 8), (UInt8.ofNat 8), (UInt8.ofNat 8), (UInt8.ofNat 8), (UInt8.ofNat 8), (UInt8.ofNat 8), (UInt8.ofNat 8), (UInt8.ofNat 8), (UInt8.ofNat 8), (UInt8.ofNat 8), (UInt8.ofNat 8), (UInt8.ofNat 8), (UInt8.ofNat 8), (UInt8.ofNat 8), (UInt8.ofNat 8), (UInt8.ofNat 8), (UInt8.ofNat 8), (UInt8.ofNat 8), (UInt8.ofNat 8), (UInt8.ofNat 8), (UInt8.ofNat 8), (UInt8.ofNat 8), (UInt8.ofNat 8), (UInt8.ofNat 8), (UInt8.ofNat 8), (UInt8.ofNat 8), (UInt8.ofNat 8), (UInt8.ofNat 8), (UInt8.ofNat 8), (UInt8.ofNat 8), (UInt8.ofNat 8), (UInt8.ofNat 8), (UInt8.ofNat 8), (UInt8.ofNat 8), (UInt8.ofNat 8), (UInt8.ofNat 8), (UInt8.ofNat 8), (UInt8.ofNat 8), (UInt8.ofNat 8), (UInt8.ofNat 8), (UInt8.ofNat 8), (UInt8.ofNat 8), (UInt8.ofNat 8), (UInt8.ofNat 8), (UInt8.ofNat 8), (UInt8.ofNat 8), (UInt8.ofNat 8), (UInt8.ofNat 8), (UInt8.ofNat 8), (UInt8.ofNat 8), (UInt8.ofNat 8), (UInt8.ofNat 8), (UInt8.ofNat 8), (UInt8.ofNat 8), (UInt8.ofNat 8), (UInt8.ofNat 8), (UInt8.ofNat 8), (UInt8.ofNat 8), (UInt8.ofNat 8), (UInt8.ofNat 8), (UInt8.ofNat 8), (UInt8.ofNat 8), (UInt8.ofNat 8), (UInt8.ofNat 8), (UInt8.ofNat 8), (UInt8.ofNat 8), (UInt8.ofNat 8), (UInt8.ofNat 8), (UInt8.ofNat 8), (UInt8.ofNat 8), (UInt8.ofNat 8), (UInt8.ofNat 8), (UInt8.ofNat 8), (UInt8.ofNat 8), (UInt8.ofNat 8), (UInt8.ofNat 8), (UInt8.ofNat 8), (UInt8.ofNat 8), (UInt8.ofNat 8), (UInt8.ofNat 8), (UInt8.ofNat 8), (UInt8.ofNat 8), (UInt8.ofNat 8), (UInt8.ofNat 8), (UInt8.ofNat 8), (UInt8.ofNat 8), (UInt8.ofNat 8), (UInt8.ofNat 8), (UInt8.ofNat 8), (UInt8.ofNat 8), (UInt8.ofNat 8), (UInt8.ofNat 8), (UInt8.ofNat 8), (UInt8.ofNat 8), (UInt8.ofNat 8), (UInt8.ofNat 8)])))) (.tmp 21)) (rfC 16661 [21, 20, 19])) .loc (.op .no (.gen (.convert 5 3 (.tmp 22)) (rfC 16661 [22, 21, 20, 19])) .loc (.op .no (.bin .add 3 qs qc) .loc q8x))))))) .ret))))))
theorem cf235_ok : compF Go.Proofs.Tryz.prog xi235 = some cf235 := by kernel_rfl
noncomputable def xi236 := xiM 236 Go.Proofs.Tryz.f236 4956738642830796146778615803
theorem xi236_ok : TabOK Go.Proofs.Tryz.prog [xi236] := tabOK1 Go.Proofs.Tryz.func236 (by kernel_rfl) (by kernel_rfl) rfl rfl
noncomputable def cf236 : FnC := (.mk 4956738642830796146778615803 93 qan (.seq (.rg (.op .no (.box 23 qa) q7 q7x)) (.seq (.seq (.rg (.op .no q3f .loc (.op .no qe4 .loc q1y))) (.seq (.rg (.op .no q1h .loc qgo)) (.cond q2o qhk .skip))) (.seq (.rg (.op .no q3f .loc (.op .no qcu .loc (.op .no qhl q1l qfg)))) (.seq (.seq (.rg (.op .no q18 q2q (.op .no (.len q2s) q37 (.op .no q6 q5o .fin)))) (.block 0 (.loop (.seq q7i (.seq (.cond q5w .skip q1n) (.seq (.block 1 (.seq (.rg (.op .no q6a .loc (.op .no (.ias 4 q2s q69) .loc qbh))) (.seq (.rg (.op .no (.fadr 3 q2x) .loc (.op .no qd .loc (.op .no (.gen (.makeFunc (Fn.func 282) (Array.mk []) (Array.mk [(.tmp 6)])) (rfC 4956738642830796146778615803 [31, 30])) .loc (.op .no qgp .loc q3l))))) (.seq (.rgd (.op .no (.soft (.fadr 0 q2x)) .loc (.op .no qad .loc (.op .no (.hard qe6) .loc (.op .no (.soft q25) .loc (.op .no q49 .loc (.op qg q78 .loc (.op qj qg0 .loc (.op ql q49 .loc (.op q4g qap .loc (.op q4i q78 .loc (.op q4j qeg .loc (.op q4l qg1 .loc (.op q4m q1s .loc (.op qg2 qad .loc (.op qg4 (.soft (.fadr 0 q2x)) .loc (.op qg5 qad .loc (.op qg6 (.hard qcl) .loc (.op qg7 (.soft qeq) .loc (.op (.yes (.loc qdl) false) qhm .loc (.op .no (.soft (.pick (.loc (.s qdl)) qo qc)) .loc (.op .no q49 .loc (.op qg (.soft (.fadr 3 q2x)) .loc (.op qj q60 .loc (.op ql (.soft q3y) .loc (.op qr q48 .loc (.op .no qfe .loc (.op .no q49 .loc (.op qg qc8 .loc (.op .no (.soft (.pick qi qo qc)) q6j .fin))))))))))))))))))))))))))))) 0) (.cond q6k qdc .skip))))) q7m)))))) (.seq (.rg (.op .no qe5 .loc (.op .no (.gen (.makeSlice 98 (.tmp 64) (.tmp 64)) (rfC 4956738642830796146778615803 [64])) .loc qb1))) (.seq (.rg (.op .no q6 q2d .fin)) (.seq (.seq (.rg (.op .no q18 q4u (.op .no (.len q4v) q51 (.op .no q6 q56 .fin)))) (.block 2 (.loop (.seq (.rg (.op .no (.bin .lss 3 q57 q52) q58 .fin)) (.seq (.cond q59 .skip q7j) (.seq (.block 3 (.seq (.rg (.op .no (.ias 4 q4v q57) .loc (.op .no q73 .loc (.op .no q74 q2j (.op .no (.st 4 q2k qc) .non .fin))))) (.seq (.rg (.op .no (.fadr 3 q2k) .loc (.op .no qd q5i qdd))) (.block 4 (.loop (.seq qde (.seq (.cond q67 .skip qcz) (.seq (.block 5 (.seq (.rg (.op .no (.ias 1 q5j q63) .loc (.op .no qd .loc qd0))) (.seq (.seq (.rg (.op .no q5x .loc (.op .no q3x .loc (.op .no q9h .loc (.op .no qd q6e .fin))))) (.cond q6f (.seq (.rg (.op .no (.mv qf2) qz .fin)) .ret) .skip)) (.seq (.rg (.op .no q5x .loc (.op .no q3x .loc (.op .no q9h .loc qfh)))) (.rg (.op .no q3u .loc (.op .no q1x .loc q3o))))))) qdn)))))))) (.rg (.op .no (.bin .add 3 q57 qe) .loc (.op .no qf q56 .fin))))))))) (.seq (.seq (.rg (.op .no q3u .loc (.op .no qe5 .loc (.op .no q97 q6l .fin)))) (.cond q6m (.seq (.rg (.op .no qff qz .fin)) .ret) .skip)) (.seq (.rg q7x) .ret))))))))))
theorem cf236_ok : compF Go.Proofs.Tryz.prog xi236 = some cf236 := by kernel_rfl
noncomputable def xi237 := xiM 237 Go.Proofs.Tryz.f237 23
theorem xi237_ok : TabOK Go.Proofs.Tryz.prog [xi237] := tabOK1 Go.Proofs.Tryz.func237 (by kernel_rfl) (by kernel_rfl) rfl rfl
noncomputable def cf237 : FnC := (.mk 23 12 qan (.seq (.rg (.op .no q39 qz .fin)) (.seq (.rgd (.op .no (.soft qbu) .loc (.op .no qap .loc (.op .no qag .loc (.op .no qad .loc (.op .no q7r .loc (.op .no qad .loc (.op .no (.soft (.bin .neq 59 qk qc)) .loc (.op .no q49 qz .fin)))))))) 0) .ret)))
theorem cf237_ok : compF Go.Proofs.Tryz.prog xi237 = some cf237 := by kernel_rfl
noncomputable def xi238 := xiM 238 Go.Proofs.Tryz.f238 8390903
theorem xi238_ok : TabOK Go.Proofs.Tryz.prog [xi238] := tabOK1 Go.Proofs.Tryz.func238 (by kernel_rfl) (by kernel_rfl) rfl rfl
noncomputable def cf238 : FnC := (.mk 8390903 49 q9b (.seq (.rg (.op .no q9c qz (.op .no (.box 59 q0) q1e (.op .no (.mv qhn) q1l .fin)))) (.seq (.seq (.rg (.op .no q6v .loc (.op .no q8k .loc (.op .no (.call (.lit (.clo 93 [])) [qi, qc]) .loc (.op .no qen q2w .fin))))) (.cond q2x (.rg (.op .no q8k .loc (.op .no q6v .loc (.op .no qf7 .non q8j)))) .skip)) (.seq (.rg (.op .no q6v .loc (.op .no q8k .loc (.op .no (.bld [(.mk 0 3 qi), (.mk 3 3 qc)] [(.int .i64 (.ofNat 0)), (.int .i64 (.ofNat 0)), (.int .u8 (.ofNat 0)), (.int .i64 (.ofNat 0)), (.int .i64 (.ofNat 0)), (.int .u8 (.ofNat 0))]) .loc (.op .no qd9 q2g (.op .no (.st 6 q2h qc) .non .fin)))))) (.seq (.seq (.rgd (.op .no qap .loc (.op .no qda .loc (.op .no qdb .loc (.op .no q60 .loc (.op .no qho .loc (.op .no (.soft (.gen (.lookup 278 (.tmp 20) (.tmp 21) false) (rfR 8390903 [21, 20, 19, 18, 17] [20, 21]))) .loc (.op .no (.soft (.bin .eql 287 qc qhn)) q33 .fin))))))) 0) (.cond q34 (.seq (.rgd (.op .no qap .loc (.op .no qda .loc (.op .no qdb .loc (.op .no q60 .loc (.op .no qho .loc (.op .no (.soft q6v) .loc (.op .no q8l .loc (.op .no (.soft (.bld [(.mk 0 3 qi), (.mk 3 3 qc)] [(.int .i64 (.ofNat 0)), (.int .i64 (.ofNat 0)), (.int .u8 (.ofNat 0)), (.int .i64 (.ofNat 0)), (.int .i64 (.ofNat 0)), (.int .u8 (.ofNat 0)), (.con (.slice Option.none 0 0)), (.con (.slice Option.none 0 0)), (.con (.slice Option.none 0 0))])) .loc (.op .no (.box 183 qc 0) .loc (.op .no (.hard (.gen (.mapUpdate 278 (.tmp 27) (.tmp 28) (.tmp 32)) (rfR 8390903 [32, 31, 30, 29, 28, 27, 26, 25, 24] [27, 28, 32]))) .non .fin)))))))))) 2) (.rgd (.op .no qap .loc (.op .no qda .loc (.op .no (.soft qd2) .loc (.op .no q60 .loc (.op .no qho .loc (.op .no (.bsl 284 1 6 [qc] 0) .loc (.op .no (.hard (.app 279 284 6 48 qk qc)) .loc (.op .no qap .loc (.op .no qda .loc (.op .no (.soft qd2) .loc (.op .no (.hard (.st 1 qc qn)) .non .fin))))))))))) 2)) .skip)) (.seq (.rgd (.op .no qap .loc (.op .no qda .loc (.op .no qdb .loc (.op .no q60 .loc (.op .no qho .loc (.op .no (.soft (.gen (.lookup 278 (.tmp 46) (.tmp 47) false) (rfR 8390903 [47, 46, 45, 44, 43] [46, 47]))) .loc qh0)))))) 0) .ret))))))
theorem cf238_ok : compF Go.Proofs.Tryz.prog xi238 = some cf238 := by kernel_rfl
noncomputable def xi239 := xiM 239 Go.Proofs.Tryz.f239 42535296023574879666274036850519702559
theorem xi239_ok : TabOK Go.Proofs.Tryz.prog [xi239] := tabOK1 Go.Proofs.Tryz.func239 (by kernel_rfl) (by kernel_rfl) rfl rfl
noncomputable def cf239 : FnC := (.mk 42535296023574879666274036850519702559 148 q8c (.seq qdi (.seq qfm (.block 0 (.loop (.block 1 (.seq qfo (.seq (.seq qfp (.cond q69 (.seq (.rg (.op .no q18 .loc (.op .no q19 .loc (.op .no q8w .loc (.op .no q1h .loc (.op .no (.call (.lit (.clo 283 [])) [qn, qk, qi, qc]) .loc .fin)))))) .ret) .skip)) (.seq (.seq qfr (.cond q5w (.seq (.rg (.op .no q18 .loc (.op .no q19 .loc (.op .no q8w .loc (.op .no q1h .loc (.op .no (.call (.lit (.clo 284 [])) [qn, qk, qi, qc]) .loc .fin)))))) .ret) .skip)) (.seq (.seq qfs (.cond q6k (.seq (.rg (.op .no q18 .loc (.op .no q19 .loc (.op .no q8w .loc (.op .no q1h .loc (.op .no (.call (.lit (.clo 285 [])) [qn, qk, qi, qc]) .loc .fin)))))) qft) .skip)) (.seq (.rg (.op .no q18 .loc (.op .no q19 .loc (.op .no q8w .loc (.op .no q1h .loc (.op .no (.call (.lit (.clo 286 [])) [qn, qk, qi, qc]) .loc qc4)))))) (.seq (.seq qfu (.cond q4v (.seq (.rg (.op .no q18 .loc (.op .no q19 .loc (.op .no q8w .loc (.op .no q1h .loc (.op .no (.call (.lit (.clo 287 [])) [qn, qk, qi, qc]) .loc .fin)))))) qfw) .skip)) (.seq (.seq qfy (.cond q52 (.seq (.rg (.op .no q18 .loc (.op .no q19 .loc (.op .no q8w .loc (.op .no q1h .loc (.op .no (.call (.lit (.clo 288 [])) [qn, qk, qi, qc]) q56 .fin)))))) qfz) .skip)) (.seq (.seq (.rgd (.op .no q7p .loc (.op .no qg0 .loc (.op .no q49 .loc (.op q4g q1v .loc (.op q4i qap .loc (.op q4j q7p .loc (.op q4l qeg .loc (.op q4m qhp .loc (.op qg2 qhq .loc (.op qg4 qap .loc (.op qg5 qc8 .loc (.op qg6 qhr .loc (.op qg7 qhq .loc qgc))))))))))))) 0) (.cond q59 (.seq (.rg (.op .no q18 .loc (.op .no q19 .loc (.op .no q8w .loc (.op .no q3t .loc (.op .no q1h .loc (.op .no (.call (.lit (.clo 289 [])) [qs, qn, qk, qi, qc]) .loc q3o))))))) qgd) .skip)) (.seq (.rg (.op .no q18 .loc (.op .no q19 .loc (.op .no q8w .loc (.op .no q3t .loc (.op .no q1h .loc (.op .no (.call (.lit (.clo 290 [])) [qs, qn, qk, qi, qc]) .loc qfi))))))) (.seq qge (.seq qgf (.seq qgg (.seq qgh (.cond q5j (.seq qgk (.seq (.rg (.op .no q18 .loc (.op .no q19 .loc (.op .no q3v .loc (.op .no q76 .loc (.op .no q1h .loc (.op .no (.call qgw [qs, qn, qk, qi, qc]) .loc .fin))))))) qgl)) (.seq qgm (.seq (.rg (.op .no q18 .loc (.op .no q3v .loc (.op .no q1x .loc (.op .no q8w .loc (.op .no q76 .loc (.op .no q1h .loc (.op .no (.call qgw [qv, qn, qk, qi, qc]) .loc .fin)))))))) qgn))))))))))))))))))))))
theorem cf239_ok : compF Go.Proofs.Tryz.prog xi239 = some cf239 := by kernel_rfl
noncomputable def xi240 := xiM 240 Go.Proofs.Tryz.f240 19
theorem xi240_ok : TabOK Go.Proofs.Tryz.prog [xi240] := tabOK1 Go.Proofs.Tryz.func240 (by kernel_rfl) (by kernel_rfl) rfl rfl
noncomputable def cf240 : FnC := (.mk 19 14 q8c (.seq qcg (.rg (.op .no q18 .loc (.op .no q8w .loc (.op .no q8w .loc (.op .no qch .loc (.op .no qci .loc (.op .no q19 .loc (.op .no (.call qhs [qv, q5, qs, qi, qc]) .loc .fin))))))))))
theorem cf240_ok : compF Go.Proofs.Tryz.prog xi240 = some cf240 := by kernel_rfl
noncomputable def xi241 := xiM 241 Go.Proofs.Tryz.f241 63
theorem xi241_ok : TabOK Go.Proofs.Tryz.prog [xi241] := tabOK1 Go.Proofs.Tryz.func241 (by kernel_rfl) (by kernel_rfl) rfl rfl
noncomputable def cf241 : FnC := (.mk 63 23 q9b (.seq (.rg (.op .no (.box 347 q2) qz (.op .no (.box 347 qa) q1e q4r))) (.seq (.rgd (.op .no (.soft q8n) .loc (.op .no qda .loc (.op .no qgu .loc (.op .no q60 .loc (.op .no q1q .loc (.op .no q60 .loc (.op .no qb4 .loc (.op .no q60 .loc (.op .no (.soft q8n) .loc (.op .no qda .loc (.op .no qgu .loc (.op .no q60 .loc (.op .no (.soft qfb) .loc (.op .no q60 .loc (.op .no qb4 .loc (.op .no q60 .loc (.op .no qht .loc qh0))))))))))))))))) 0) .ret)))
theorem cf241_ok : compF Go.Proofs.Tryz.prog xi241 = some cf241 := by kernel_rfl
noncomputable def xi242 := xiM 242 Go.Proofs.Tryz.f242 19
theorem xi242_ok : TabOK Go.Proofs.Tryz.prog [xi242] := tabOK1 Go.Proofs.Tryz.func242 (by kernel_rfl) (by kernel_rfl) rfl rfl
noncomputable def cf242 : FnC := (.mk 19 14 q8c (.seq qcg (.rg (.op .no q18 .loc (.op .no q8w .loc (.op .no q8w .loc (.op .no qch .loc (.op .no qci .loc (.op .no q19 .loc (.op .no (.call qhu [qv, q5, qs, qi, qc]) .loc .fin))))))))))
theorem cf242_ok : compF Go.Proofs.Tryz.prog xi242 = some cf242 := by kernel_rfl
noncomputable def xi243 := xiM 243 Go.Proofs.Tryz.f243 63
theorem xi243_ok : TabOK Go.Proofs.Tryz.prog [xi243] := tabOK1 Go.Proofs.Tryz.func243 (by kernel_rfl) (by kernel_rfl) rfl rfl
noncomputable def cf243 : FnC := (.mk 63 30 q9b (.seq (.rg (.op .no (.box 186 q2) qz (.op .no (.box 186 qa) q1e q4r))) (.seq (.rgd (.op .no q1q .loc (.op .no q60 .loc (.op .no (.soft qfb) .loc (.op .no q60 .loc (.op .no qf6 .loc (.op .no (.softw q8n 1 (.load 276 (.tmp 2)) (rfR 63 [10, 9, 8, 7, 6] [2])) .loc (.op .no qda .loc (.op .no qgu .loc (.op .no (.softw qd 1 (.load 50 (.tmp 13)) (rfR 63 [13, 12, 11, 10, 9, 8, 7, 6] [13])) .loc (.op .no qdv .loc (.op .no (.softw qd 1 (.load 3 (.tmp 15)) (rfR 63 [15, 14, 13, 12, 11, 10, 9, 8, 7, 6] [15])) .loc (.op .no (.softw qb3 1 (.indexAddr 50 (.tmp 14) (.tmp 16)) (rfR 63 [16, 15, 14, 13, 12, 11, 10, 9, 8, 7, 6] [14, 16])) .loc (.op .no (.softw qd 1 (.load 3 (.tmp 17)) (rfR 63 [17, 16, 15, 14, 13, 12, 11, 10, 9, 8, 7, 6] [17])) .loc (.op .no (.softw q8n 1 (.load 276 (.tmp 2)) (rfR 63 [18, 17, 16, 15, 14, 13, 12, 11, 10, 9, 8, 7, 6] [2])) .loc (.op .no qda .loc (.op .no qgu .loc (.op .no (.softw qd 1 (.load 50 (.tmp 21)) (rfR 63 [21, 20, 19, 18, 17, 16, 15, 14, 13, 12, 11, 10, 9, 8, 7, 6] [21])) .loc (.op .no (.soft (.fadr 1 q1g)) .loc (.op .no (.softw qd 1 (.load 3 (.tmp 23)) (rfR 63 [23, 22, 21, 20, 19, 18, 17, 16, 15, 14, 13, 12, 11, 10, 9, 8, 7, 6] [23])) .loc (.op .no (.softw qb3 1 (.indexAddr 50 (.tmp 22) (.tmp 24)) (rfR 63 [24, 23, 22, 21, 20, 19, 18, 17, 16, 15, 14, 13, 12, 11, 10, 9, 8, 7, 6] [22, 24])) .loc (.op .no (.softw qd 1 (.load 3 (.tmp 25)) (rfR 63 [25, 24, 23, 22, 21, 20, 19, 18, 17, 16, 15, 14, 13, 12, 11, 10, 9, 8, 7, 6] [25])) .loc (.op .no qht .loc (.op .no (.bsl 3 2 1 [(.loc (.s (.s (.s (.s qdl))))), qc] 0) .loc (.op .no qea .loc qh0)))))))))))))))))))))))) 2) .ret)))
theorem cf243_ok : compF Go.Proofs.Tryz.prog xi243 = some cf243 := by kernel_rfl
noncomputable def xi244 := xiM 244 Go.Proofs.Tryz.f244 5
theorem xi244_ok : TabOK Go.Proofs.Tryz.prog [xi244] := tabOK1 Go.Proofs.Tryz.func244 (by kernel_rfl) (by kernel_rfl) rfl rfl
noncomputable def cf244 : FnC := (.mk 5 11 q8c (.seq (.rg (.op .no q18 .loc (.op .no q3y .loc q8x))) (.rg (.op .no q18 .loc (.op .no q19 .loc (.op .no q19 .loc (.op .no (.gen (.convert 3 272 (.tmp 7)) (rfC 5 [7, 6, 5])) .loc (.op .no qci .loc (.op .no (.call qhv [qs, q5, qn, qc]) .loc .fin)))))))))
theorem cf244_ok : compF Go.Proofs.Tryz.prog xi244 = some cf244 := by kernel_rfl
noncomputable def xi245 := xiM 245 Go.Proofs.Tryz.f245 5
theorem xi245_ok : TabOK Go.Proofs.Tryz.prog [xi245] := tabOK1 Go.Proofs.Tryz.func245 (by kernel_rfl) (by kernel_rfl) rfl rfl
noncomputable def cf245 : FnC := (.mk 5 9 q8s (.seq qbk (.seq (.rg (.op .no q18 .loc (.op .no q18 .loc (.op .no q3y .loc (.op .no q18 .loc (.op .no q3y .loc (.op .no (.gen (.slice 180 (.tmp 3) Option.none (Option.some (.tmp 5)) (Option.some (.tmp 7))) (rfC 5 [7, 6, 5, 4, 3])) .loc q8x))))))) .ret)))
theorem cf245_ok : compF Go.Proofs.Tryz.prog xi245 = some cf245 := by kernel_rfl
noncomputable def xi246 := xiM 246 Go.Proofs.Tryz.f246 21
theorem xi246_ok : TabOK Go.Proofs.Tryz.prog [xi246] := tabOK1 Go.Proofs.Tryz.func246 (by kernel_rfl) (by kernel_rfl) rfl rfl
noncomputable def cf246 : FnC := (.mk 21 8 q8s (.seq qbk (.seq (.seq (.rg (.op .no q18 .loc (.op .no (.bin .eql 180 qc q6r) q7 .fin))) qcs) (.seq (.rg (.op .no (.bsl 347 0 2 []) .loc (.op .no q18 .loc (.op .no (.app 180 347 2 16 qi qc) .loc q8x)))) .ret))))
theorem cf246_ok : compF Go.Proofs.Tryz.prog xi246 = some cf246 := by kernel_rfl
noncomputable def xi247 := xiM 247 Go.Proofs.Tryz.f247 5
theorem xi247_ok : TabOK Go.Proofs.Tryz.prog [xi247] := tabOK1 Go.Proofs.Tryz.func247 (by kernel_rfl) (by kernel_rfl) rfl rfl
noncomputable def cf247 : FnC := (.mk 5 9 q8s (.seq qbk (.seq (.rg (.op .no q18 .loc (.op .no q18 .loc (.op .no q3y .loc (.op .no q18 .loc (.op .no q3y .loc (.op .no (.gen (.slice 181 (.tmp 3) Option.none (Option.some (.tmp 5)) (Option.some (.tmp 7))) (rfC 5 [7, 6, 5, 4, 3])) .loc q8x))))))) .ret)))
theorem cf247_ok : compF Go.Proofs.Tryz.prog xi247 = some cf247 := by kernel_rfl
noncomputable def xi248 := xiM 248 Go.Proofs.Tryz.f248 21
theorem xi248_ok : TabOK Go.Proofs.Tryz.prog [xi248] := tabOK1 Go.Proofs.Tryz.func248 (by kernel_rfl) (by kernel_rfl) rfl rfl
noncomputable def cf248 : FnC := (.mk 21 8 q8s (.seq qbk (.seq (.seq (.rg (.op .no q18 .loc (.op .no (.bin .eql 181 qc q6r) q7 .fin))) qcs) (.seq (.rg (.op .no (.bsl 186 0 3 []) .loc (.op .no q18 .loc (.op .no (.app 181 186 3 24 qi qc) .loc q8x)))) .ret))))
theorem cf248_ok : compF Go.Proofs.Tryz.prog xi248 = some cf248 := by kernel_rfl
noncomputable def xi249 := xiM 249 Go.Proofs.Tryz.f249 55
theorem xi249_ok : TabOK Go.Proofs.Tryz.prog [xi249] := tabOK1 Go.Proofs.Tryz.func249 (by kernel_rfl) (by kernel_rfl) rfl rfl
noncomputable def cf249 : FnC := (.mk 55 15 qan (.seq (.rg q7x) (.seq (.rg (.op .no qbu .loc (.op .no q18 .loc (.op .no (.call (.lit (.clo 165 [])) [qi, qc]) .loc q1y)))) (.seq (.rg (.op .no q8n .loc (.op .no qf .loc (.op q4g q1h .loc (.op q4i qeq .loc (.op .no qfx .loc q8r)))))) qhk))))
theorem cf249_ok : compF Go.Proofs.Tryz.prog xi249 = some cf249 := by kernel_rfl
noncomputable def xi250 := xiM 250 Go.Proofs.Tryz.f250 66483
theorem xi250_ok : TabOK Go.Proofs.Tryz.prog [xi250] := tabOK1 Go.Proofs.Tryz.func250 (by kernel_rfl) (by kernel_rfl) rfl rfl
noncomputable def cf250 : FnC := (.mk 66483 19 q1 (.seq q15 (.seq (.seq qev (.block 0 (.loop (.seq qew (.seq qed (.seq (.block 1 (.seq qex (.seq (.rg (.op .no q19 .loc (.op .no q18 .loc (.op .no q76 .loc (.op .no qaf .loc (.op .no q2u .loc qey)))))) qf0))) qf1)))))) q91)))
theorem cf250_ok : compF Go.Proofs.Tryz.prog xi250 = some cf250 := by kernel_rfl
noncomputable def xi251 := xiM 251 Go.Proofs.Tryz.f251 68719490939
theorem xi251_ok : TabOK Go.Proofs.Tryz.prog [xi251] := tabOK1 Go.Proofs.Tryz.func251 (by kernel_rfl) (by kernel_rfl) rfl rfl
noncomputable def cf251 : FnC := (.mk 68719490939 39 q8c (.seq (.rg (.op .no qak .loc (.op .no qcu q2g q8d))) (.block 0 (.loop (.seq q8f (.seq q8g (.seq (.block 1 (.seq (.rg (.op .no q4z .loc q29)) (.seq (.rg (.op .no qbt q26 .fin)) (.block 2 (.loop (.seq (.rg (.op .no (.bin .lss 5 q28 q3m) q2d .fin)) (.seq qhw (.seq (.block 3 (.seq (.rg (.op .no q5x .loc q70)) (.seq (.rg (.op .no qak .loc (.op .no q8w .loc (.op .no q76 .loc (.op .no qdy .loc (.op .no qf .loc q7z)))))) (.seq (.rg (.op .no q2c .loc (.op .no q4f .loc (.op .no qf .loc (.op q4g q1h .loc (.op q4i q8w .loc (.op q4j q99 .loc (.op .no q4k .loc (.op .no qf .loc (.op q4g q18 .loc (.op q4i q8w .loc (.op q4j q76 .loc (.op q4l qdz .loc (.op q4m (.call qn [qc]) .loc (.op qg2 q6d .loc (.op .no (.pick qx qc q35) q2j .fin)))))))))))))))) (.cond q2k .ret .skip))))) (.rg (.op .no (.bin .add 5 q28 q3c) .loc qb1)))))))))) q8m)))))))
theorem cf251_ok : compF Go.Proofs.Tryz.prog xi251 = some cf251 := by kernel_rfl
noncomputable def xi252 := xiM 252 Go.Proofs.Tryz.f252 59
theorem xi252_ok : TabOK Go.Proofs.Tryz.prog [xi252] := tabOK1 Go.Proofs.Tryz.func252 (by kernel_rfl) (by kernel_rfl) rfl rfl
noncomputable def cf252 : FnC := (.mk 59 11 (.many [q7w, q6n]) (.seq (.rg (.op .no qh8 q7 (.op .no q6 qz (.op .no q39 q1e .fin)))) (.seq (.rg (.op .no q18 .loc (.op .no q3f .loc (.op .no (.call (.lit (.clo 294 [])) [qi, qc, (.lit (.clo 295 []))]) .loc (.op .no q22 .loc (.op .no q23 .loc (.op .no q3p qz q1y))))))) .ret)))
theorem cf252_ok : compF Go.Proofs.Tryz.prog xi252 = some cf252 := by kernel_rfl
noncomputable def xi253 := xiM 253 Go.Proofs.Tryz.f253 17179886351
theorem xi253_ok : TabOK Go.Proofs.Tryz.prog [xi253] := tabOK1 Go.Proofs.Tryz.func253 (by kernel_rfl) (by kernel_rfl) rfl rfl
noncomputable def cf253 : FnC := (.mk 17179886351 53 q8c (.seq qha (.block 0 (.loop (.seq qhb (.seq (.block 1 (.seq qhc (.block 2 (.loop (.seq (.seq (.rgd (.op .no qab .loc (.op .no q7p .loc (.op .no qhd .loc (.op .no q49 .loc (.op q4g qek .loc (.op q4i qap .loc (.op q4j qab .loc (.op q4l qee .loc (.op q4m q1u .loc (.op qg2 qap .loc (.op qg4 qab .loc (.op qg5 qeg .loc (.op qg6 qeh .loc (.op qg7 q1u .loc qhg)))))))))))))) 0) qhh) (.seq (.block 3 (.rgd (.op .no qap .loc (.op .no qab .loc (.op .no qap .loc (.op .no qab .loc (.op .no qeg .loc (.op .no qeh .loc (.op .no q1u .loc (.op .no qap .loc (.op .no qab .loc (.op .no qee .loc (.op .no q1u .loc (.op .no (.soft (.ias 2 q8p qet)) .loc (.op .no (.hard (.st 2 qc qv)) .non (.op .no qap .loc (.op .no qab .loc (.op .no qhi .loc (.op .no qeh .loc (.op .no (.hard (.st 2 qc qv)) .non .fin)))))))))))))))))) 0)) qhj)))))) q1z))))))
theorem cf253_ok : compF Go.Proofs.Tryz.prog xi253 = some cf253 := by kernel_rfl
noncomputable def xi261 := xiM 261 Go.Proofs.Tryz.f261 1048583
theorem xi261_ok : TabOK Go.Proofs.Tryz.prog [xi261] := tabOK1 Go.Proofs.Tryz.func261 (by kernel_rfl) (by kernel_rfl) rfl rfl
noncomputable def cf261 : FnC := (.mk 1048583 21 q1 (.seq qhx (.seq (.seq (.rg (.op .no qb .loc (.op .no qd .loc (.op .no qhy .loc (.op .no qf .loc (.op qg qb .loc (.op qj qd .loc (.op ql qhz .loc (.op .no qp .loc (.op .no qf .loc (.op qg qh .loc (.op qj qd .loc (.op ql qhy .loc (.op .no qp .loc (.op .no qf .loc (.op qg qh .loc (.op qj qd .loc (.op ql qhz .loc qau)))))))))))))))))) q14) q16)))
theorem cf261_ok : compF Go.Proofs.Tryz.prog xi261 = some cf261 := by kernel_rfl
noncomputable def xi262 := xiM 262 Go.Proofs.Tryz.f262 3
theorem xi262_ok : TabOK Go.Proofs.Tryz.prog [xi262] := tabOK1 Go.Proofs.Tryz.func262 (by kernel_rfl) (by kernel_rfl) rfl rfl
noncomputable def cf262 : FnC := (.mk 3 10 (.one (.cell 15 true q2)) (.seq (.rg (.op .no (.alloc 369 [(.con .nilFunc), (.con .nilFunc), (.con .nilFunc), (.con .nilFunc), (.con .nilFunc), (.con .nilFunc), (.con .nilFunc), (.con .nilFunc), (.con .nilFunc), (.con .nilFunc), (.con .nilFunc), (.con .nilFunc), (.con .nilFunc), (.con .nilFunc), (.con .nilFunc)]) (.kep .e) .fin)) (.seq (.rg (.op .no (.bld [(.mk 1 1 q41), q3g, (.mk 3 1 q4o), (.mk 4 1 q3m)] [(.int .u8 (.ofNat 0)), (.int .u8 (.ofNat 0)), (.int .u8 (.ofNat 0)), (.int .u8 (.ofNat 0)), (.int .u8 (.ofNat 0))]) .loc (.op .no (.alloc 400 [(.int .u8 (.ofNat 0)), (.int .u8 (.ofNat 0)), (.int .u8 (.ofNat 0)), (.int .u8 (.ofNat 0)), (.int .u8 (.ofNat 0))]) q4 (.op .no (.st 5 qa qc) .non .fin)))) (.seq (.rg (.op .no (.bld [(.mk 0 1 (.lit (.clo 299 []))), (.mk 1 1 (.lit (.clo 301 []))), (.mk 2 1 (.lit (.clo 302 [])))] [(.con .nilFunc), (.con .nilFunc), (.con .nilFunc)]) .loc (.op .no (.bld [(.mk 0 1 (.lit (.clo 303 []))), (.mk 1 1 (.lit (.clo 304 []))), (.mk 2 1 (.lit (.clo 305 [])))] [(.con .nilFunc), (.con .nilFunc), (.con .nilFunc)]) .loc (.op .no (.gen (.makeFunc (Fn.func 308) (Array.mk []) (Array.mk [(.tmp 1)])) (rfC 3 [4, 3])) .loc (.op .no (.bld [(.mk 0 1 (.lit (.clo 306 []))), (.mk 1 1 (.lit (.clo 307 []))), q7u] [(.con .nilFunc), (.con .nilFunc), (.con .nilFunc)]) .loc (.op .no (.gen (.makeFunc (Fn.func 311) (Array.mk []) (Array.mk [(.tmp 1)])) (rfC 3 [6, 5, 4, 3])) .loc (.op .no (.bld [(.mk 0 1 (.lit (.clo 309 []))), (.mk 1 1 (.lit (.clo 310 []))), q7u] [(.con .nilFunc), (.con .nilFunc), (.con .nilFunc)]) .loc (.op .no (.bld [(.mk 3 3 qv), (.mk 6 3 qs), (.mk 9 3 qk), (.mk 12 3 qc)] [(.con .nilFunc), (.con .nilFunc), (.con .nilFunc), (.con .nilFunc), (.con .nilFunc), (.con .nilFunc), (.con .nilFunc), (.con .nilFunc), (.con .nilFunc), (.con .nilFunc), (.con .nilFunc), (.con .nilFunc), (.con .nilFunc), (.con .nilFunc), (.con .nilFunc)]) .loc (.op .no (.st 15 q2 qc) .non .fin))))))))) .ret))))
theorem cf262_ok : compF Go.Proofs.Tryz.prog xi262 = some cf262 := by kernel_rfl
noncomputable def xi263 := xiM 263 Go.Proofs.Tryz.f263 17179886351
theorem xi263_ok : TabOK Go.Proofs.Tryz.prog [xi263] := tabOK1 Go.Proofs.Tryz.func263 (by kernel_rfl) (by kernel_rfl) rfl rfl
noncomputable def cf263 : FnC := (.mk 17179886351 53 q8c (.seq qha (.block 0 (.loop (.seq qhb (.seq (.block 1 (.seq qhc (.block 2 (.loop (.seq (.seq (.rgd (.op .no qab .loc (.op .no q7p .loc (.op .no qhd .loc (.op .no q49 .loc (.op q4g qek .loc (.op q4i qap .loc (.op q4j qab .loc (.op q4l qag .loc (.op q4m qad .loc (.op qg2 qap .loc (.op qg4 qab .loc (.op qg5 qeg .loc (.op qg6 qac .loc (.op qg7 qad .loc qhg)))))))))))))) 0) qhh) (.seq (.block 3 (.rgd (.op .no qap .loc (.op .no qab .loc (.op .no qap .loc (.op .no qab .loc (.op .no qeg .loc (.op .no qac .loc (.op .no qad .loc (.op .no qap .loc (.op .no qab .loc (.op .no qag .loc (.op .no qad .loc (.op .no (.soft (.ias 3 q8p qet)) .loc (.op .no (.hard (.st 3 qc qv)) .non (.op .no qap .loc (.op .no qab .loc (.op .no qhi .loc (.op .no qac .loc (.op .no (.hard (.st 3 qc qv)) .non .fin)))))))))))))))))) 0)) qhj)))))) q1z))))))
theorem cf263_ok : compF Go.Proofs.Tryz.prog xi263 = some cf263 := by kernel_rfl
noncomputable def xi272 := xiM 272 Go.Proofs.Tryz.f272 7
theorem xi272_ok : TabOK Go.Proofs.Tryz.prog [xi272] := tabOK1 Go.Proofs.Tryz.func272 (by kernel_rfl) (by kernel_rfl) rfl rfl
noncomputable def cf272 : FnC := (.mk 7 12 qh7 (.seq (.rg (.op .no qcm q4 (.op .no qem q7 .fin))) (.seq (.rg (.op .no qb .loc (.op .no qd .loc (.op .no q9n .loc (.op .no q1x .loc (.op .no qh .loc (.op .no qd .loc (.op .no q9n .loc (.op .no q1x .loc (.op .no (.bld [(.mk 0 1 qs), q1a] [(.int .i64 (.ofNat 0)), (.int .i64 (.ofNat 0))]) .loc q3e)))))))))) .ret)))
theorem cf272_ok : compF Go.Proofs.Tryz.prog xi272 = some cf272 := by kernel_rfl
noncomputable def xi275 := xiM 275 Go.Proofs.Tryz.f275 66483
theorem xi275_ok : TabOK Go.Proofs.Tryz.prog [xi275] := tabOK1 Go.Proofs.Tryz.func275 (by kernel_rfl) (by kernel_rfl) rfl rfl
noncomputable def cf275 : FnC := (.mk 66483 19 q1 (.seq q15 (.seq (.seq qev (.block 0 (.loop (.seq qew (.seq qed (.seq (.block 1 (.seq qex (.seq (.rg (.op .no q19 .loc (.op .no q18 .loc (.op .no q76 .loc (.op .no qaf .loc (.op .no q2u .loc qey)))))) qf0))) qf1)))))) q91)))
theorem cf275_ok : compF Go.Proofs.Tryz.prog xi275 = some cf275 := by kernel_rfl
end
end Go.Proofs.YteodgliliglipaaGreatDoor.V.I
namespace Go.Proofs.YteodgliliglipaaGreatDoor.V.I
open Go
noncomputable section
set_option maxRecDepth 100000
noncomputable def xi276 := xiM 276 Go.Proofs.Tryz.f276 1073746431
theorem xi276_ok : TabOK Go.Proofs.Tryz.prog [xi276] := tabOK1 Go.Proofs.Tryz.func276 (by kernel_rfl) (by kernel_rfl) rfl rfl
noncomputable def cf276 : FnC := (.mk 1073746431 36 qf4 (.seq (.rg (.op .no q3 q7 (.op .no qh8 qz (.op .no q7o q1e q4r)))) (.seq (.seq qf8 (.seq (.rg (.op .no q3r .loc q27)) (.cond q28 (.seq (.rg (.op .no q4d .loc (.op .no q3r .loc (.op .no (.st 3 q1g qi) .non q2b)))) .ret) .skip))) (.seq (.seq (.rg (.op .no q3f .loc (.op .no q1p .loc (.op .no qd .loc (.op .no qco .loc (.op .no qd .loc (.op .no qfc .loc (.op .no qf .loc (.op .no q22 .loc (.op .no q23 .loc (.op .no qa6 q2w (.op .no (.st 2 q2x qi) .non q3l)))))))))))) (.seq (.rg (.op .no q3t .loc (.op .no q25 .loc (.op .no qf .loc (.op qg (.ld 2 true q2x) .loc (.op qj qb2 .loc (.op ql (.bin .neq 107 qi qc) .loc (.op .no qp q2d .fin)))))))) (.cond q2e (.seq (.rg (.op .no q4d .loc (.op .no q8i .non q5b))) .ret) .skip))) (.seq (.rg (.op .no q3f .loc (.op .no q1p .loc (.op .no qd .loc (.op .no (.call (.lit (.clo 216 [])) [qk, qc]) .loc (.op .no q8i .non q4r)))))) .ret)))))
theorem cf276_ok : compF Go.Proofs.Tryz.prog xi276 = some cf276 := by kernel_rfl
noncomputable def xi282 := xiM 282 Go.Proofs.Tryz.f282 11
theorem xi282_ok : TabOK Go.Proofs.Tryz.prog [xi282] := tabOK1 Go.Proofs.Tryz.func282 (by kernel_rfl) (by kernel_rfl) rfl rfl
noncomputable def cf282 : FnC := (.mk 11 11 q1 (.seq qep (.seq (.rg (.op .no q18 .loc (.op .no qcd .loc (.op .no qf .loc (.op qg q18 .loc (.op qj qbu .loc (.op ql qgi .loc (.op .no qp .loc q29)))))))) .ret)))
theorem cf282_ok : compF Go.Proofs.Tryz.prog xi282 = some cf282 := by kernel_rfl
noncomputable def xi283 := xiM 283 Go.Proofs.Tryz.f283 17179886351
theorem xi283_ok : TabOK Go.Proofs.Tryz.prog [xi283] := tabOK1 Go.Proofs.Tryz.func283 (by kernel_rfl) (by kernel_rfl) rfl rfl
noncomputable def cf283 : FnC := (.mk 17179886351 53 q8c (.seq qha (.block 0 (.loop (.seq qhb (.seq (.block 1 (.seq qhc (.block 2 (.loop (.seq (.seq (.rgd (.op .no qab .loc (.op .no q7p .loc (.op .no qhd .loc (.op .no q49 .loc (.op q4g qek .loc (.op q4i qap .loc (.op q4j qab .loc (.op q4l qhr .loc (.op q4m qhq .loc (.op qg2 qap .loc (.op qg4 qab .loc (.op qg5 qeg .loc (.op qg6 qhp .loc (.op qg7 qhq .loc qhg)))))))))))))) 0) qhh) (.seq (.block 3 (.rgd (.op .no qap .loc (.op .no qab .loc (.op .no qap .loc (.op .no qab .loc (.op .no qeg .loc (.op .no qhp .loc (.op .no qhq .loc (.op .no qap .loc (.op .no qab .loc (.op .no qhr .loc (.op .no qhq .loc (.op .no qi0 .loc (.op .no qi1 .non (.op .no qap .loc (.op .no qab .loc (.op .no qhi .loc qi2)))))))))))))))) 0)) qhj)))))) q1z))))))
theorem cf283_ok : compF Go.Proofs.Tryz.prog xi283 = some cf283 := by kernel_rfl
noncomputable def xi286 := xiM 286 Go.Proofs.Tryz.f286 1333065575601045263
theorem xi286_ok : TabOK Go.Proofs.Tryz.prog [xi286] := tabOK1 Go.Proofs.Tryz.func286 (by kernel_rfl) (by kernel_rfl) rfl rfl
noncomputable def cf286 : FnC := (.mk 1333065575601045263 63 q6o (.seq (.rg qbv) (.seq qi3 (.seq (.rg (.op .no qhl q2w .fin)) (.seq (.rg (.op .no q19 .loc (.op .no q3r .loc (.op .no q7q .loc (.op .no (.bin .mul 3 qc qe) .loc (.op .no qf9 .loc q3l)))))) (.seq (.rg (.op .no q19 .loc (.op .no q3r .loc (.op .no q7q .loc (.op .no (.bin .mul 3 qc q3b) .loc (.op .no qf9 .loc qb1)))))) (.seq (.rg (.op .no q19 .loc (.op .no q3r .loc (.op .no q7q .loc (.op .no (.bin .mul 3 qc q3q) .loc (.op .no qf9 .loc q3o)))))) (.seq (.seq (.rg (.op .no q3r .loc (.op .no (.bin .geq 3 qc qf2) q2j .fin))) (.cond q2k (.seq (.seq (.rg (.op .no q3r .loc (.op .no (.bin .geq 3 qc qi4) q2l .fin))) (.cond q2p (.seq (.rg (.op .no q18 .loc (.op .no q3t .loc (.op .no q76 .loc (.op .no qi5 .loc q3l))))) (.seq (.rg (.op .no q18 .loc (.op .no q5x .loc (.op .no q76 .loc (.op .no qi5 .loc qb1))))) (.rg (.op .no q18 .loc (.op .no q3u .loc (.op .no q76 .loc (.op .no qi5 .loc q3o))))))) .skip)) (.rg (.op .no q18 .loc (.op .no q3t .loc (.op .no q5x .loc (.op .no q3u .loc (.op .no q76 .loc (.op .no (.call (.lit (.clo 319 [])) [qs, qn, qk, qi, q2x, qc]) .loc qb1)))))))) .skip)) (.seq (.rg (.op .no (.ld 1 false q2x) q2m .fin)) (.block 0 (.seq (.rg (.op .no (.bin .eql 3 q2o q5) .loc qah)) (.cond q2s (.seq (.rg (.op .no q5x .loc (.op .no qf q1e q9l))) .ret) (.seq (.rg (.op .no (.bin .eql 3 q2o q8a) .loc q5f)) (.cond q38 (.seq (.rg (.op .no q5x .loc (.op .no qf q1e (.op .no (.mv q3b) q1l .fin)))) .ret) (.seq (.rg (.op .no q5x .loc qbp)) .ret)))))))))))))))
theorem cf286_ok : compF Go.Proofs.Tryz.prog xi286 = some cf286 := by kernel_rfl
noncomputable def xi288 := xiM 288 Go.Proofs.Tryz.f288 21268317252094917911888073248812900111
theorem xi288_ok : TabOK Go.Proofs.Tryz.prog [xi288] := tabOK1 Go.Proofs.Tryz.func288 (by kernel_rfl) (by kernel_rfl) rfl rfl
noncomputable def cf288 : FnC := (.mk 21268317252094917911888073248812900111 141 qck (.seq qi6 (.seq (.rg (.op .no q19 .loc (.op .no q1x .loc q2b))) (.seq (.seq (.rg q82) (.block 0 (.loop (.seq (.seq (.rg (.op .no q3r .loc (.op .no (.bin .lss 3 qc q4b) q26 .fin))) q9f) (.seq (.block 1 (.seq (.block 2 (.loop (.seq (.seq (.rgd (.op .no qab .loc (.op .no q9j .loc (.op .no (.soft q97) .loc (.op .no q49 .loc (.op q4g qek .loc (.op q4i qap .loc (.op q4j qab .loc (.op q4l qhr .loc (.op q4m qhq .loc (.op qg2 qap .loc (.op qg4 qab .loc (.op qg5 qeg .loc (.op qg6 qhp .loc (.op qg7 qhq .loc (.op qg8 qhe .loc (.op qg9 qdt .loc (.op (.yes qcr true) qga .loc (.op .no qgb q2d .fin)))))))))))))))))) 0) qhw) (.block 3 (.rg (.op .no q2c .loc (.op .no q1x .loc q2b))))))) (.seq (.seq (.rg (.op .no q2c .loc (.op .no q8w .loc (.op .no (.bin .eql 3 qi qc) q2j .fin)))) (.cond q2k (.seq qi7 .ret) .skip)) (.seq (.seq (.rg (.op .no q8w .loc (.op .no q19 .loc (.op .no qfn .loc (.op .no (.bin .lss 3 qc qi4) q2l .fin))))) (.cond q2p (.seq qi6 .ret) .skip)) (.seq (.rgd (.op .no qap .loc (.op .no qab .loc (.op .no qap .loc (.op .no qab .loc (.op .no qeg .loc (.op .no qhp .loc (.op .no qhq .loc (.op .no qap .loc (.op .no qab .loc (.op .no qhr .loc (.op .no qhq .loc (.op .no qi0 .loc (.op .no qi1 .non (.op .no qap .loc (.op .no qab .loc (.op .no (.softw qef 1 (.binOp .sub 3 (.tmp 49) (.const (.int .i64 (.ofNat 1))) 3) (rfR 21268317252094917911888073248812900111 [49, 48, 60, 59, 58, 57, 56, 55, 54, 53, 52, 51, 47, 46] [49])) .loc qi2)))))))))))))))) 0) (.seq (.seq (.rg (.op .no q2c .loc (.op .no q19 .loc (.op .no qfn .loc (.op .no (.bin .geq 3 qc q3b) q2m .fin))))) (.cond q2o (.seq (.rg (.op .no q2c .loc (.op .no qef .loc q4y))) (.block 4 (.loop (.seq (.seq (.rg (.op .no q4z .loc (.op .no (.bin .geq 3 qc qe) q2q .fin))) (.cond q2s .skip qcz)) (.seq (.block 5 (.seq (.seq (.rgd (.op .no qek .loc (.op .no qap .loc (.op .no q9g .loc (.op .no qhr .loc (.op .no qhq .loc (.op .no qap .loc (.op .no q9g .loc (.op .no qeg .loc (.op .no qhp .loc (.op .no qhq .loc (.op .no qhe .loc (.op .no qdt .loc (.op .no qga q37 .fin))))))))))))) 0) (.cond q38 qcz .skip)) (.rgd (.op .no qap .loc (.op .no q9g .loc (.op .no qap .loc (.op .no q9g .loc (.op .no qeg .loc (.op .no qhp .loc (.op .no qhq .loc (.op .no qap .loc (.op .no q9g .loc (.op .no qhr .loc (.op .no qhq .loc (.op .no qi0 .loc (.op .no qi1 .non (.op .no qap .loc (.op .no q9g .loc (.op .no (.softw qef 1 (.binOp .sub 3 (.tmp 88) (.const (.int .i64 (.ofNat 1))) 3) (rfR 21268317252094917911888073248812900111 [88, 87, 99, 98, 97, 96, 95, 94, 93, 92, 91, 90, 86, 85] [88])) .loc qi2)))))))))))))))) 0))) qi8))))) .skip)) (.seq (.rg (.op .no q8w .loc (.op .no q2c .loc (.op .no qfn .loc (.op .no (.bin .geq 3 qc q3b) q5o .fin))))) (.cond q69 (.seq (.rg (.op .no q2c .loc (.op .no q1x .loc q3l))) (.block 6 (.loop (.seq (.seq (.rg (.op .no q3t .loc (.op .no q8w .loc (.op .no q97 q5v .fin)))) (.cond q5w .skip qd1)) (.seq (.block 7 (.seq (.seq (.rgd (.op .no qek .loc (.op .no qap .loc (.op .no qc8 .loc (.op .no qhr .loc (.op .no qhq .loc (.op .no qap .loc (.op .no qc8 .loc (.op .no qeg .loc (.op .no qhp .loc (.op .no qhq .loc (.op .no qhe .loc (.op .no qdt .loc (.op .no qga q6j .fin))))))))))))) 0) (.cond q6k qd1 .skip)) (.rgd (.op .no qap .loc (.op .no qc8 .loc (.op .no qap .loc (.op .no qc8 .loc (.op .no qeg .loc (.op .no qhp .loc (.op .no qhq .loc (.op .no qap .loc (.op .no qc8 .loc (.op .no qhr .loc (.op .no qhq .loc (.op .no qi0 .loc (.op .no qi1 .non (.op .no qap .loc (.op .no qc8 .loc (.op .no (.softw qef 1 (.binOp .sub 3 (.tmp 128) (.const (.int .i64 (.ofNat 1))) 3) (rfR 21268317252094917911888073248812900111 [128, 127, 139, 138, 137, 136, 135, 134, 133, 132, 131, 130, 126, 125] [128])) .loc qi2)))))))))))))))) 0))) (.rg (.op .no q3t .loc (.op .no q1x .loc q3l)))))))) .skip)))))))) qi9))))) (.seq qi6 .ret)))))
theorem cf288_ok : compF Go.Proofs.Tryz.prog xi288 = some cf288 := by kernel_rfl
noncomputable def xi289 := xiM 289 Go.Proofs.Tryz.f289 1217485249602318769183
theorem xi289_ok : TabOK Go.Proofs.Tryz.prog [xi289] := tabOK1 Go.Proofs.Tryz.func289 (by kernel_rfl) (by kernel_rfl) rfl rfl
noncomputable def cf289 : FnC := (.mk 1217485249602318769183 90 q9b (.seq (.rg q4r) (.seq qic (.seq (.rg (.op .no q19 .loc (.op .no q1x .loc (.op .no q8w .loc (.op .no qef .loc (.op .no q54 q2g q4y)))))) (.seq (.block 0 (.loop (.block 1 (.seq (.block 2 (.loop (.seq (.seq (.rgd (.op .no q78 .loc (.op .no q9g .loc (.op .no qid .loc (.op .no q49 .loc (.op q4g q1v .loc (.op q4i qap .loc (.op q4j q7p .loc (.op q4l qhr .loc (.op q4m qhq .loc (.op qg2 qap .loc (.op qg4 q78 .loc (.op qg5 qhr .loc (.op qg6 qhq .loc (.op qg7 qie .loc (.op qg8 qdt .loc (.op qg9 qga .loc (.op .no qhf q33 .fin))))))))))))))))) 0) qej) (.block 3 qi9)))) (.seq (.block 4 (.loop (.seq (.seq (.rgd (.op .no q78 .loc (.op .no q9g .loc (.op .no qid .loc (.op .no q49 .loc (.op q4g q1v .loc (.op q4i qap .loc (.op q4j q7p .loc (.op q4l qhr .loc (.op q4m qhq .loc (.op qg2 qap .loc (.op qg4 q9g .loc qig))))))))))) 0) (.cond q28 .skip qcz)) (.block 5 qi8)))) (.seq (.seq (.rg (.op .no q3r .loc (.op .no q4z .loc (.op .no q99 q2d .fin)))) (.cond q2e q1n .skip)) (.seq (.rgd (.op .no qap .loc (.op .no q78 .loc (.op .no qap .loc (.op .no q9g .loc (.op .no qhr .loc (.op .no qhq .loc (.op .no qap .loc (.op .no q78 .loc (.op .no qhr .loc (.op .no qhq .loc (.op .no qia .loc (.op .no qi1 .non (.op .no qap .loc (.op .no q9g .loc qib)))))))))))))) 0) (.seq qi9 qi8)))))))) (.seq (.rg (.op .no q3r .loc q2b)) .ret))))))
theorem cf289_ok : compF Go.Proofs.Tryz.prog xi289 = some cf289 := by kernel_rfl
noncomputable def xi290 := xiM 290 Go.Proofs.Tryz.f290 22997644815212700899627017342834150232570911
theorem xi290_ok : TabOK Go.Proofs.Tryz.prog [xi290] := tabOK1 Go.Proofs.Tryz.func290 (by kernel_rfl) (by kernel_rfl) rfl rfl
noncomputable def cf290 : FnC := (.mk 22997644815212700899627017342834150232570911 178 qct (.seq (.rg (.op .no q6 q1l (.op .no q39 q2g .fin))) (.seq qic (.seq (.rg (.op .no q19 .loc (.op .no q1x .loc (.op .no q8w .loc (.op .no qef .loc (.op .no q54 q2w q3l)))))) (.seq (.block 0 (.loop (.seq (.seq (.rgd (.op .no q9g .loc (.op .no qc8 .loc (.op .no qid .loc (.op .no q49 .loc (.op q4g q1v .loc (.op q4i qap .loc (.op q4j q9g .loc (.op q4l qhr .loc (.op q4m qhq .loc (.op qg2 qap .loc (.op qg4 q7p .loc qig))))))))))) 0) q9f) (.block 1 q9k)))) (.seq (.block 2 (.loop (.seq (.seq (.rgd (.op .no q9g .loc (.op .no qc8 .loc (.op .no qid .loc (.op .no q49 .loc (.op q4g q1v .loc (.op q4i qap .loc (.op q4j qc8 .loc (.op q4l qhr .loc (.op q4m qhq .loc (.op qg2 qap .loc (.op qg4 q7p .loc (.op qg5 qhr .loc (.op qg6 qhq .loc (.op qg7 qie .loc (.op qg8 qdt .loc (.op qg9 qga .loc (.op .no qhf q2d .fin))))))))))))))))) 0) qhw) (.block 3 qih)))) (.seq (.seq (.rg (.op .no q4z .loc (.op .no q3t .loc (.op .no q99 q2j .fin)))) (.cond q2k (.seq qii (.seq (.rg (.op .no q3t .loc (.op .no qf q1l qfl))) .ret)) .skip)) (.seq qij (.seq q9k (.seq qih (.seq (.block 4 (.loop (.block 5 (.seq (.block 6 (.loop (.seq (.seq (.rgd (.op .no q9g .loc (.op .no qc8 .loc (.op .no qid .loc (.op .no q49 .loc (.op q4g q1v .loc (.op q4i qap .loc (.op q4j q9g .loc (.op q4l qhr .loc (.op q4m qhq .loc (.op qg2 qap .loc (.op qg4 q7p .loc (.op qg5 qhr .loc (.op qg6 qhq .loc (.op qg7 qie .loc (.op qg8 qdt .loc (.op .no qif q2l .fin)))))))))))))))) 0) (.cond q2p .skip qd1)) (.block 7 q9k)))) (.seq (.block 8 (.loop (.seq (.seq (.rgd (.op .no q9g .loc (.op .no qc8 .loc (.op .no qid .loc (.op .no q49 .loc (.op q4g q1v .loc (.op q4i qap .loc (.op q4j qc8 .loc (.op q4l qhr .loc (.op q4m qhq .loc (.op qg2 qap .loc (.op qg4 q7p .loc (.op qg5 qhr .loc (.op qg6 qhq .loc (.op qg7 qie .loc (.op qg8 qdt .loc (.op qg9 qga .loc (.op .no qhf q2m .fin))))))))))))))))) 0) (.cond q2o .skip (.exit 8))) (.block 9 qih)))) (.seq (.seq (.rg (.op .no q4z .loc (.op .no q3t .loc (.op .no q99 q2q .fin)))) (.cond q2s qcz .skip)) (.seq qij (.seq q9k qih)))))))) (.seq qii (.seq (.rg (.op .no q3t .loc (.op .no qf q1l (.op .no q39 q2g .fin)))) .ret)))))))))))))
theorem cf290_ok : compF Go.Proofs.Tryz.prog xi290 = some cf290 := by kernel_rfl
noncomputable def xi291 := xiM 291 Go.Proofs.Tryz.f291 42535296023574879666274036850519702559
theorem xi291_ok : TabOK Go.Proofs.Tryz.prog [xi291] := tabOK1 Go.Proofs.Tryz.func291 (by kernel_rfl) (by kernel_rfl) rfl rfl
noncomputable def cf291 : FnC := (.mk 42535296023574879666274036850519702559 148 q8c (.seq qdi (.seq qfm (.block 0 (.loop (.block 1 (.seq qfo (.seq (.seq qfp (.cond q69 (.seq (.rg (.op .no q18 .loc (.op .no q19 .loc (.op .no q8w .loc (.op .no q1h .loc (.op .no (.call (.lit (.clo 320 [])) [qn, qk, qi, qc]) .loc .fin)))))) .ret) .skip)) (.seq (.seq qfr (.cond q5w (.seq (.rg (.op .no q18 .loc (.op .no q19 .loc (.op .no q8w .loc (.op .no q1h .loc (.op .no (.call (.lit (.clo 321 [])) [qn, qk, qi, qc]) .loc .fin)))))) .ret) .skip)) (.seq (.seq qfs (.cond q6k (.seq (.rg (.op .no q18 .loc (.op .no q19 .loc (.op .no q8w .loc (.op .no q1h .loc (.op .no (.call (.lit (.clo 322 [])) [qn, qk, qi, qc]) .loc .fin)))))) qft) .skip)) (.seq (.rg (.op .no q18 .loc (.op .no q19 .loc (.op .no q8w .loc (.op .no q1h .loc (.op .no (.call (.lit (.clo 323 [])) [qn, qk, qi, qc]) .loc qc4)))))) (.seq (.seq qfu (.cond q4v (.seq (.rg (.op .no q18 .loc (.op .no q19 .loc (.op .no q8w .loc (.op .no q1h .loc (.op .no (.call (.lit (.clo 324 [])) [qn, qk, qi, qc]) .loc .fin)))))) qfw) .skip)) (.seq (.seq qfy (.cond q52 (.seq (.rg (.op .no q18 .loc (.op .no q19 .loc (.op .no q8w .loc (.op .no q1h .loc (.op .no (.call (.lit (.clo 325 [])) [qn, qk, qi, qc]) q56 .fin)))))) qfz) .skip)) (.seq (.seq qgz (.cond q59 (.seq (.rg (.op .no q18 .loc (.op .no q19 .loc (.op .no q8w .loc (.op .no q3t .loc (.op .no q1h .loc (.op .no (.call (.lit (.clo 326 [])) [qs, qn, qk, qi, qc]) .loc q3o))))))) qgd) .skip)) (.seq (.rg (.op .no q18 .loc (.op .no q19 .loc (.op .no q8w .loc (.op .no q3t .loc (.op .no q1h .loc (.op .no (.call (.lit (.clo 327 [])) [qs, qn, qk, qi, qc]) .loc qfi))))))) (.seq qge (.seq qgf (.seq qgg (.seq qgh (.cond q5j (.seq qgk (.seq (.rg (.op .no q18 .loc (.op .no q19 .loc (.op .no q3v .loc (.op .no q76 .loc (.op .no q1h .loc (.op .no (.call qhs [qs, qn, qk, qi, qc]) .loc .fin))))))) qgl)) (.seq qgm (.seq (.rg (.op .no q18 .loc (.op .no q3v .loc (.op .no q1x .loc (.op .no q8w .loc (.op .no q76 .loc (.op .no q1h .loc (.op .no (.call qhs [qv, qn, qk, qi, qc]) .loc .fin)))))))) qgn))))))))))))))))))))))
theorem cf291_ok : compF Go.Proofs.Tryz.prog xi291 = some cf291 := by kernel_rfl
noncomputable def xi292 := xiM 292 Go.Proofs.Tryz.f292 42535296023574879666274036850519702559
theorem xi292_ok : TabOK Go.Proofs.Tryz.prog [xi292] := tabOK1 Go.Proofs.Tryz.func292 (by kernel_rfl) (by kernel_rfl) rfl rfl
noncomputable def cf292 : FnC := (.mk 42535296023574879666274036850519702559 148 q8c (.seq qdi (.seq qfm (.block 0 (.loop (.block 1 (.seq qfo (.seq (.seq qfp (.cond q69 (.seq (.rg (.op .no q18 .loc (.op .no q19 .loc (.op .no q8w .loc (.op .no q1h .loc (.op .no (.call (.lit (.clo 328 [])) [qn, qk, qi, qc]) .loc .fin)))))) .ret) .skip)) (.seq (.seq qfr (.cond q5w (.seq (.rg (.op .no q18 .loc (.op .no q19 .loc (.op .no q8w .loc (.op .no q1h .loc (.op .no (.call (.lit (.clo 329 [])) [qn, qk, qi, qc]) .loc .fin)))))) .ret) .skip)) (.seq (.seq qfs (.cond q6k (.seq (.rg (.op .no q18 .loc (.op .no q19 .loc (.op .no q8w .loc (.op .no q1h .loc (.op .no (.call (.lit (.clo 330 [])) [qn, qk, qi, qc]) .loc .fin)))))) qft) .skip)) (.seq (.rg (.op .no q18 .loc (.op .no q19 .loc (.op .no q8w .loc (.op .no q1h .loc (.op .no (.call (.lit (.clo 331 [])) [qn, qk, qi, qc]) .loc qc4)))))) (.seq (.seq qfu (.cond q4v (.seq (.rg (.op .no q18 .loc (.op .no q19 .loc (.op .no q8w .loc (.op .no q1h .loc (.op .no (.call (.lit (.clo 332 [])) [qn, qk, qi, qc]) .loc .fin)))))) qfw) .skip)) (.seq (.seq qfy (.cond q52 (.seq (.rg (.op .no q18 .loc (.op .no q19 .loc (.op .no q8w .loc (.op .no q1h .loc (.op .no (.call (.lit (.clo 333 [])) [qn, qk, qi, qc]) q56 .fin)))))) qfz) .skip)) (.seq (.seq qh1 (.cond q59 (.seq (.rg (.op .no q18 .loc (.op .no q19 .loc (.op .no q8w .loc (.op .no q3t .loc (.op .no q1h .loc (.op .no (.call (.lit (.clo 334 [])) [qs, qn, qk, qi, qc]) .loc q3o))))))) qgd) .skip)) (.seq (.rg (.op .no q18 .loc (.op .no q19 .loc (.op .no q8w .loc (.op .no q3t .loc (.op .no q1h .loc (.op .no (.call (.lit (.clo 335 [])) [qs, qn, qk, qi, qc]) .loc qfi))))))) (.seq qge (.seq qgf (.seq qgg (.seq qgh (.cond q5j (.seq qgk (.seq (.rg (.op .no q18 .loc (.op .no q19 .loc (.op .no q3v .loc (.op .no q76 .loc (.op .no q1h .loc (.op .no (.call qhu [qs, qn, qk, qi, qc]) .loc .fin))))))) qgl)) (.seq qgm (.seq (.rg (.op .no q18 .loc (.op .no q3v .loc (.op .no q1x .loc (.op .no q8w .loc (.op .no q76 .loc (.op .no q1h .loc (.op .no (.call qhu [qv, qn, qk, qi, qc]) .loc .fin)))))))) qgn))))))))))))))))))))))
theorem cf292_ok : compF Go.Proofs.Tryz.prog xi292 = some cf292 := by kernel_rfl
noncomputable def xi293 := xiM 293 Go.Proofs.Tryz.f293 10384593871817177683247510831234831
theorem xi293_ok : TabOK Go.Proofs.Tryz.prog [xi293] := tabOK1 Go.Proofs.Tryz.func293 (by kernel_rfl) (by kernel_rfl) rfl rfl
noncomputable def cf293 : FnC := (.mk 10384593871817177683247510831234831 134 q8c (.seq qi7 (.seq qdi (.block 0 (.loop (.block 1 (.seq qi3 (.seq (.seq (.rg (.op .no q3r .loc (.op .no (.bin .leq 3 qc q8a) q37 .fin))) (.cond q38 (.seq (.rg (.op .no q18 .loc (.op .no q19 .loc (.op .no q8w .loc (.op .no (.call (.lit (.clo 336 [])) [qk, qi, qc]) .loc .fin))))) .ret) .skip)) (.seq (.seq (.rg (.op .no q76 .loc (.op .no q47 q5o .fin))) (.cond q69 (.seq (.rg (.op .no q18 .loc (.op .no q19 .loc (.op .no q8w .loc (.op .no (.call (.lit (.clo 337 [])) [qk, qi, qc]) .loc .fin))))) .ret) .skip)) (.seq (.seq (.rg (.op .no q1h .loc (.op .no q6d q5v .fin))) (.cond q5w (.seq (.rg (.op .no q18 .loc (.op .no q19 .loc (.op .no q8w .loc (.op .no (.call (.lit (.clo 338 [])) [qk, qi, qc]) .loc .fin))))) qft) .skip)) (.seq (.rg (.op .no q18 .loc (.op .no q19 .loc (.op .no q8w .loc (.op .no (.call (.lit (.clo 339 [])) [qk, qi, qc]) .loc qay))))) (.seq (.seq (.rg (.op .no q3t .loc (.op .no (.bin .eql 334 qc q3b) q6j .fin))) (.cond q6k (.seq (.rg (.op .no q18 .loc (.op .no q19 .loc (.op .no q8w .loc (.op .no (.call (.lit (.clo 340 [])) [qk, qi, qc]) .loc .fin))))) (.seq (.rg (.op .no q8w .loc (.op .no qef .loc (.op .no q4z .loc (.op .no q19 .loc (.op .no qfn .loc (.op .no qfv .loc q4y))))))) (.rg (.op .no q11 q33 .fin)))) .skip)) (.seq (.seq (.rg (.op .no q1h .loc (.op .no qf .loc (.op q4g q2c .loc (.op .no (.pick qi qc q35) .loc (.op .no qf .loc (.op q4g q3t .loc (.op q4i (.bin .eql 334 qc qe) .loc (.op .no qfx q4u .fin))))))))) (.cond q4v (.seq (.rg (.op .no q18 .loc (.op .no q19 .loc (.op .no q8w .loc (.op .no (.call (.lit (.clo 341 [])) [qk, qi, qc]) q51 .fin))))) (.cond q52 .ret .skip)) .skip)) (.seq (.seq (.rgd (.op .no q7p .loc (.op .no qg0 .loc (.op .no q49 .loc (.op q4g qap .loc (.op q4i q7p .loc (.op q4j qeg .loc (.op q4l qb4 .loc (.op q4m q60 .loc (.op qg2 qap .loc (.op qg4 q9g .loc (.op qg5 q9i .loc (.op qg6 q60 .loc (.op qg7 (.hard (.call (.lit (.clo 342 [])) [qs, qc])) .loc (.op qg8 qga .loc (.op .no qif q56 .fin))))))))))))))) 0) (.cond q57 (.seq (.rg (.op .no q18 .loc (.op .no q19 .loc (.op .no q8w .loc (.op .no q4z .loc (.op .no (.call (.lit (.clo 343 [])) [qn, qk, qi, qc]) .loc qb1)))))) (.seq (.rg (.op .no q5x .loc q8x)) q75)) .skip)) (.seq (.rg (.op .no q18 .loc (.op .no q19 .loc (.op .no q8w .loc (.op .no q4z .loc (.op .no (.call (.lit (.clo 344 [])) [qn, qk, qi, qc]) .loc (.op .no qf .loc (.op .no q22 .loc (.op .no q23 .loc (.op .no q3p q2d q7g)))))))))) (.seq (.rg (.op .no q3v .loc q2b)) (.seq (.rg (.op .no q3u .loc (.op .no q19 .loc (.op .no qfn .loc (.op .no q8w .loc (.op .no q3u .loc (.op .no qfn .loc (.op .no (.mv qn) q2l q30)))))))) (.seq (.rg (.op .no q3r .loc (.op .no (.bin .quo 3 qc qf2) .loc qah))) (.seq (.rg (.op .no q3x .loc (.op .no q4h .loc (.op .no q97 q58 .fin)))) (.cond q59 (.seq (.rg (.op .no q3x .loc qik)) (.seq (.rg (.op .no q18 .loc (.op .no q19 .loc (.op .no q3u .loc (.op .no q76 .loc (.op .no (.call qhv [qn, qk, qi, qc]) .loc .fin)))))) (.rg (.op .no q3u .loc (.op .no q1x .loc q8x))))) (.seq (.rg (.op .no q4h .loc qik)) (.seq (.rg (.op .no q18 .loc (.op .no q3u .loc (.op .no q1x .loc (.op .no q8w .loc (.op .no q76 .loc (.op .no (.call qhv [qs, qk, qi, qc]) .loc .fin))))))) (.rg (.op .no q3u .loc q29))))))))))))))))))))))))
theorem cf293_ok : compF Go.Proofs.Tryz.prog xi293 = some cf293 := by kernel_rfl
noncomputable def xi294 := xiM 294 Go.Proofs.Tryz.f294 2147618775
theorem xi294_ok : TabOK Go.Proofs.Tryz.prog [xi294] := tabOK1 Go.Proofs.Tryz.func294 (by kernel_rfl) (by kernel_rfl) rfl rfl
noncomputable def cf294 : FnC := (.mk 2147618775 49 q6o (.seq (.rg (.op .no qh8 qz (.op .no q6 q1e (.op .no q39 q1l .fin)))) (.seq (.rg (.op .no q18 .loc (.op .no q3y .loc q3j))) (.seq (.rg (.op .no q3r .loc (.op .no q6 q2w q3l))) (.seq (.block 0 (.loop (.seq (.seq (.rg (.op .no q4z .loc (.op .no q3t .loc (.op .no q97 q2d .fin)))) (.cond q2e .skip q1n)) (.block 1 (.seq (.rg (.op .no q4z .loc (.op .no q3t .loc (.op .no qh4 .loc (.op .no (.gen (.convert 3 272 (.tmp 20)) (rfC 2147618775 [20, 19, 18])) .loc (.op .no (.bin .shr 272 qc (.lit (.int .u64 (.ofNat 1)))) .loc (.op .no (.gen (.convert 272 3 (.tmp 22)) (rfC 2147618775 [22, 21, 20, 19, 18])) .loc qb1))))))) (.seq (.rgd (.op .no q9j .loc (.op .no qap .loc (.op .no q5y .loc (.op .no qag .loc (.op .no qad .loc (.op .no (.soft qb2) .loc (.op .no qil .loc (.op .no qdt q2j .fin)))))))) 0) (.cond q2k (.rg (.op .no q5x .loc (.op .no q1x .loc q4y))) (.rg (.op .no q5x .loc q3l))))))))) (.seq (.rgd (.op .no q9g .loc (.op .no q78 .loc (.op .no (.soft q97) .loc (.op .no q49 .loc (.op q4g q9j .loc (.op q4i qap .loc (.op q4j q9g .loc (.op q4l qag .loc (.op q4m qad .loc (.op qg2 (.soft qb2) .loc (.op qg4 qil .loc (.op .no q9g .loc (.op qg6 (.soft (.bin .eql 3 qi q5)) .loc (.op .no (.soft (.pick qet qc q35)) .loc (.op .no (.soft q54) q1e qh0))))))))))))))) 0) .ret))))))
theorem cf294_ok : compF Go.Proofs.Tryz.prog xi294 = some cf294 := by kernel_rfl
noncomputable def xi295 := xiM 295 Go.Proofs.Tryz.f295 31
theorem xi295_ok : TabOK Go.Proofs.Tryz.prog [xi295] := tabOK1 Go.Proofs.Tryz.func295 (by kernel_rfl) (by kernel_rfl) rfl rfl
noncomputable def cf295 : FnC := (.mk 31 9 qck (.seq (.rg (.op .no qf5 q7 (.op .no qh8 qz q1f))) (.seq (.rgd (.op .no (.soft q6u) .loc (.op .no qfd .loc (.op .no (.softw qb2 1 (.load 107 (.tmp 3)) (rfR 31 [6, 5] [3])) .loc (.op .no (.hard (.call (.lit (.clo 222 [])) [qi, qc])) .loc (.op .no q49 q1e .fin))))) 0) .ret)))
theorem cf295_ok : compF Go.Proofs.Tryz.prog xi295 = some cf295 := by kernel_rfl
noncomputable def xi299 := xiM 299 Go.Proofs.Tryz.f299 7
theorem xi299_ok : TabOK Go.Proofs.Tryz.prog [xi299] := tabOK1 Go.Proofs.Tryz.func299 (by kernel_rfl) (by kernel_rfl) rfl rfl
noncomputable def cf299 : FnC := (.mk 7 5 q1 (.seq qhx (.seq (.rg (.op .no qak .loc (.op .no (.call qim [q3c, qc]) .loc q29))) .ret)))
theorem cf299_ok : compF Go.Proofs.Tryz.prog xi299 = some cf299 := by kernel_rfl
noncomputable def xi300 := xiM 300 Go.Proofs.Tryz.f300 17531
theorem xi300_ok : TabOK Go.Proofs.Tryz.prog [xi300] := tabOK1 Go.Proofs.Tryz.func300 (by kernel_rfl) (by kernel_rfl) rfl rfl
noncomputable def cf300 : FnC := (.mk 17531 26 qan (.seq (.rg (.op .no (.box 300 qa) q7 q7x)) (.seq (.seq (.rg (.op .no q18 q1e .fin)) (.block 0 (.seq (.rg (.op .no (.bin .eql 41 q1g q3c) .loc q2b)) (.cond q1m (.seq (.rg (.op .no q6g .loc q8v)) .ret) (.seq (.rg (.op .no (.bin .eql 41 q1g q41) .loc q3j)) (.cond q2h (.seq (.rg (.op .no qcn .loc q8v)) .ret) (.seq (.rg (.op .no (.bin .eql 41 q1g q3m) .loc q4y)) (.cond q2x (.seq (.rg (.op .no q6g .loc (.op .no qd .loc (.op .no qcn .loc (.op .no qd .loc (.op .no qcc .loc q70)))))) .ret) .skip)))))))) (.seq (.rg (.op .no qcn .loc (.op .no qd .loc (.op .no q6g .loc (.op .no qd .loc (.op .no qfk .loc q70)))))) .ret))))
theorem cf300_ok : compF Go.Proofs.Tryz.prog xi300 = some cf300 := by kernel_rfl
noncomputable def xi303 := xiM 303 Go.Proofs.Tryz.f303 7
theorem xi303_ok : TabOK Go.Proofs.Tryz.prog [xi303] := tabOK1 Go.Proofs.Tryz.func303 (by kernel_rfl) (by kernel_rfl) rfl rfl
noncomputable def cf303 : FnC := (.mk 7 5 q1 (.seq qhx (.seq (.rg (.op .no qak .loc (.op .no (.call qim [q41, qc]) .loc q29))) .ret)))
theorem cf303_ok : compF Go.Proofs.Tryz.prog xi303 = some cf303 := by kernel_rfl
noncomputable def xi306 := xiM 306 Go.Proofs.Tryz.f306 7
theorem xi306_ok : TabOK Go.Proofs.Tryz.prog [xi306] := tabOK1 Go.Proofs.Tryz.func306 (by kernel_rfl) (by kernel_rfl) rfl rfl
noncomputable def cf306 : FnC := (.mk 7 5 q1 (.seq qhx (.seq (.rg (.op .no qak .loc (.op .no (.call qim [q3m, qc]) .loc q29))) .ret)))
theorem cf306_ok : compF Go.Proofs.Tryz.prog xi306 = some cf306 := by kernel_rfl
noncomputable def xi309 := xiM 309 Go.Proofs.Tryz.f309 7
theorem xi309_ok : TabOK Go.Proofs.Tryz.prog [xi309] := tabOK1 Go.Proofs.Tryz.func309 (by kernel_rfl) (by kernel_rfl) rfl rfl
noncomputable def cf309 : FnC := (.mk 7 5 q1 (.seq qhx (.seq (.rg (.op .no qak .loc (.op .no (.call qim [q4o, qc]) .loc q29))) .ret)))
theorem cf309_ok : compF Go.Proofs.Tryz.prog xi309 = some cf309 := by kernel_rfl
noncomputable def xi318 := xiM 318 Go.Proofs.Tryz.f318 271
theorem xi318_ok : TabOK Go.Proofs.Tryz.prog [xi318] := tabOK1 Go.Proofs.Tryz.func318 (by kernel_rfl) (by kernel_rfl) rfl rfl
noncomputable def cf318 : FnC := (.mk 271 18 qck (.seq (.rg q1f) (.seq (.rg (.op .no q18 .loc (.op .no q19 .loc (.op .no qef .loc (.op .no q19 .loc (.op .no q19 .loc (.op .no q1x .loc (.op .no q8w .loc (.op .no q76 .loc (.op .no (.call (.lit (.clo 319 [])) [q42, qv, qs, qk, qi, qc]) .loc q1y)))))))))) .ret)))
theorem cf318_ok : compF Go.Proofs.Tryz.prog xi318 = some cf318 := by kernel_rfl
noncomputable def xi319 := xiM 319 Go.Proofs.Tryz.f319 4159
theorem xi319_ok : TabOK Go.Proofs.Tryz.prog [xi319] := tabOK1 Go.Proofs.Tryz.func319 (by kernel_rfl) (by kernel_rfl) rfl rfl
noncomputable def cf319 : FnC := (.mk 4159 41 (.one qaw) (.seq (.rg q82) (.seq qio (.seq (.rg (.op .no q18 .loc (.op .no q8w .loc (.op .no q76 .loc (.op .no q1h .loc (.op .no q2c .loc (.op .no qin .loc (.op .no qf .loc (.op .no q22 .loc (.op .no q23 .loc (.op .no q3p q7 q70))))))))))) (.seq qio (.seq (.rg (.op .no q8w .loc q3j)) .ret))))))
theorem cf319_ok : compF Go.Proofs.Tryz.prog xi319 = some cf319 := by kernel_rfl
noncomputable def xi320 := xiM 320 Go.Proofs.Tryz.f320 17179886351
theorem xi320_ok : TabOK Go.Proofs.Tryz.prog [xi320] := tabOK1 Go.Proofs.Tryz.func320 (by kernel_rfl) (by kernel_rfl) rfl rfl
noncomputable def cf320 : FnC := (.mk 17179886351 53 q8c (.seq qha (.block 0 (.loop (.seq qhb (.seq (.block 1 (.seq qhc (.block 2 (.loop (.seq (.seq (.rgd (.op .no qab .loc (.op .no q7p .loc (.op .no qhd .loc (.op .no q49 .loc (.op q4g qek .loc (.op q4i qap .loc (.op q4j qab .loc (.op q4l qee .loc (.op q4m q1u .loc (.op qg2 qap .loc (.op qg4 qab .loc (.op qg5 qeg .loc (.op qg6 qeh .loc (.op qg7 q1u .loc qhg)))))))))))))) 0) qhh) (.seq (.block 3 (.rgd (.op .no qap .loc (.op .no qab .loc (.op .no qap .loc (.op .no qab .loc (.op .no qeg .loc (.op .no qeh .loc (.op .no q1u .loc (.op .no qap .loc (.op .no qab .loc (.op .no qee .loc (.op .no q1u .loc (.op .no (.soft (.ias 2 q8p qet)) .loc (.op .no (.hard (.st 2 qc qv)) .non (.op .no qap .loc (.op .no qab .loc (.op .no qhi .loc (.op .no qeh .loc (.op .no (.hard (.st 2 qc qv)) .non .fin)))))))))))))))))) 0)) qhj)))))) q1z))))))
theorem cf320_ok : compF Go.Proofs.Tryz.prog xi320 = some cf320 := by kernel_rfl
noncomputable def xi328 := xiM 328 Go.Proofs.Tryz.f328 17179886351
theorem xi328_ok : TabOK Go.Proofs.Tryz.prog [xi328] := tabOK1 Go.Proofs.Tryz.func328 (by kernel_rfl) (by kernel_rfl) rfl rfl
noncomputable def cf328 : FnC := (.mk 17179886351 53 q8c (.seq qha (.block 0 (.loop (.seq qhb (.seq (.block 1 (.seq qhc (.block 2 (.loop (.seq (.seq (.rgd (.op .no qab .loc (.op .no q7p .loc (.op .no qhd .loc (.op .no q49 .loc (.op q4g qek .loc (.op q4i qap .loc (.op q4j qab .loc (.op q4l qag .loc (.op q4m qad .loc (.op qg2 qap .loc (.op qg4 qab .loc (.op qg5 qeg .loc (.op qg6 qac .loc (.op qg7 qad .loc qhg)))))))))))))) 0) qhh) (.seq (.block 3 (.rgd (.op .no qap .loc (.op .no qab .loc (.op .no qap .loc (.op .no qab .loc (.op .no qeg .loc (.op .no qac .loc (.op .no qad .loc (.op .no qap .loc (.op .no qab .loc (.op .no qag .loc (.op .no qad .loc (.op .no (.soft (.ias 3 q8p qet)) .loc (.op .no (.hard (.st 3 qc qv)) .non (.op .no qap .loc (.op .no qab .loc (.op .no qhi .loc (.op .no qac .loc (.op .no (.hard (.st 3 qc qv)) .non .fin)))))))))))))))))) 0)) qhj)))))) q1z))))))
theorem cf328_ok : compF Go.Proofs.Tryz.prog xi328 = some cf328 := by kernel_rfl
noncomputable def xi336 := xiM 336 Go.Proofs.Tryz.f336 1073746119
theorem xi336_ok : TabOK Go.Proofs.Tryz.prog [xi336] := tabOK1 Go.Proofs.Tryz.func336 (by kernel_rfl) (by kernel_rfl) rfl rfl
noncomputable def cf336 : FnC := (.mk 1073746119 49 q8c (.seq (.rg (.op .no q19 .loc (.op .no q1x .loc q70))) (.block 0 (.loop (.seq (.seq (.rg (.op .no q76 .loc (.op .no q8w .loc (.op .no q97 q1l .fin)))) q1o) (.seq (.block 1 (.seq (.rg (.op .no q76 .loc q1y)) (.block 2 (.loop (.seq (.seq (.rgd (.op .no q1v .loc (.op .no q7p .loc (.op .no qhd .loc (.op .no q49 .loc (.op q4g qap .loc (.op q4i q1v .loc (.op q4j q9i .loc (.op q4l q60 .loc (.op q4m qap .loc (.op qg2 q1v .loc (.op qg4 qeg .loc (.op qg5 qb4 .loc (.op qg6 q60 .loc (.op qg7 (.hard (.call (.lit (.clo 342 [])) [qv, qc])) .loc (.op .no qhm q2g .fin))))))))))))))) 0) (.cond q2h .skip q7j)) (.seq (.block 3 (.rgd (.op .no qap .loc (.op .no q1v .loc (.op .no qap .loc (.op .no q1v .loc (.op .no qeg .loc (.op .no qb4 .loc (.op .no q60 .loc (.op .no qap .loc (.op .no q1v .loc (.op .no q9i .loc (.op .no q60 .loc (.op .no (.soft (.ias 1 q8p qet)) .loc (.op .no qeu .non (.op .no qap .loc (.op .no q1v .loc (.op .no (.softw qef 1 (.binOp .sub 3 (.tmp 36) (.const (.int .i64 (.ofNat 1))) 3) (rfR 1073746119 [36, 35, 47, 46, 45, 44, 43, 42, 41, 40, 39, 38, 34, 33] [36])) .loc (.op .no qb4 .loc (.op .no qeu .non .fin)))))))))))))))))) 0)) (.rg (.op .no q1h .loc (.op .no qef .loc q1y))))))))) (.rg (.op .no q76 .loc (.op .no q1x .loc q70)))))))))
theorem cf336_ok : compF Go.Proofs.Tryz.prog xi336 = some cf336 := by kernel_rfl
noncomputable def xi342 := xiM 342 Go.Proofs.Tryz.f342 19
theorem xi342_ok : TabOK Go.Proofs.Tryz.prog [xi342] := tabOK1 Go.Proofs.Tryz.func342 (by kernel_rfl) (by kernel_rfl) rfl rfl
noncomputable def cf342 : FnC := (.mk 19 17 q1 (.seq qep (.seq (.rg (.op .no q18 .loc (.op .no q96 .loc (.op .no qf .loc (.op q4g q19 .loc (.op q4i q96 .loc (.op q4j q6d .loc (.op .no q4k .loc (.op .no qf .loc (.op qg q18 .loc (.op qj q19 .loc (.op ql q97 .loc (.op .no qp .loc q29))))))))))))) .ret)))
theorem cf342_ok : compF Go.Proofs.Tryz.prog xi342 = some cf342 := by kernel_rfl
noncomputable def xi348 := xiM 348 Go.Proofs.Tryz.f348 4197407
theorem xi348_ok : TabOK Go.Proofs.Tryz.prog [xi348] := tabOK1 Go.Proofs.Tryz.func348 (by kernel_rfl) (by kernel_rfl) rfl rfl
noncomputable def cf348 : FnC := (.mk 4197407 32 qct (.seq (.rg (.op .no q6 q1l q82)) (.seq (.seq (.rgd (.op .no q1v .loc (.op .no qap .loc (.op .no q9j .loc (.op .no qhr .loc (.op .no qhq .loc (.op .no qap .loc (.op .no q7p .loc (.op .no qhr .loc (.op .no qhq .loc (.op .no qie .loc (.op .no qdt q2w .fin))))))))))) 0) (.cond q2x (.seq (.rg (.op .no q76 .loc (.op .no qcy .loc (.op .no qd .loc (.op .no q1x .loc (.op .no (.nilc qn) .loc q6b)))))) (.seq (.rg (.op .no q8w .loc (.op .no q19 .loc q9x))) .ret)) .skip)) (.seq (.rg (.op .no q19 .loc (.op .no q8w .loc q9x))) .ret))))
theorem cf348_ok : compF Go.Proofs.Tryz.prog xi348 = some cf348 := by kernel_rfl
end
end Go.Proofs.YteodgliliglipaaGreatDoor.V.I
namespace Go.Proofs.YteodgliliglipaaGreatDoor.V
open Go
def lnErr (k C : Int) : Int := if 1 ≤ k ∧ k ≤ 4 ∧ -4096 ≤ C ∧ C ≤ 4096 then 0 else 1
abbrev nLnCheck : FuncId := 63
def kLnCheck : Kon
 | [.agg [.int .u8 k, .int .i64 C]] => some (True, .int .i64 (lnErr k C))
 | _ => none
def FLnCheck : Fam := ⟨Int × Int, fun (k, C) => [.agg [.int .u8 k, .int .i64 C]], fun (k, C) => True, fun (k, C) => .int .i64 (lnErr k C)⟩
set_option maxHeartbeats 4000000 in
set_option maxRecDepth 100000 in
theorem pLnCheck : PS nLnCheck kLnCheck := by
 refine con [] (by simp) FLnCheck (fun _ _ => none) kLnCheck ?_ ?_ Go.Proofs.Tryz.func63 (by kernel_rfl) (by kernel_rfl) (by kernel_rfl) ?_
 ·
  intro args pre s h hp
  unfold kLnCheck at h
  split at h
  ·
   rename_i k C; cases h; exact ⟨(k, C), by simp [FLnCheck, le2L, SV.le2, SV.le1, le0L, SV.le0], hp, rfl⟩
  ·
   cases h
 ·
  intro i; show 1 ≤ _; decide
 ·
  rintro ⟨k, C⟩ hp
  replace hp : True := hp
  repeat' (first | ((with_reducible refine And.intro (Ask.mk ?_) ?_); first | exact trivial | exact fun _ => trivial) | with_reducible refine And.intro ?_ ?_ | ((with_reducible refine Br.litT ?_ ?_); exact (Eq.refl true)) | ((with_reducible refine Br.litF ?_ ?_); exact (Eq.refl false)) | with_reducible refine Br.mk (fun h => ?_) (fun h => ?_) | with_reducible exact True.intro | with_reducible refine rowEq ?_ | with_reducible refine Ub.mk (fun hu => ?_) | ((with_reducible refine Late.mk ?_); exact rfl) | ((fail_if_success (with_reducible first | refine stopA ?_ | refine stopE ?_ | refine stopF ?_ | refine Exists.intro ?_ ?_ | intro _ | refine stopK ?_ | refine stopL ?_)); conv => whnf))
  all_goals (try with_reducible refine Ask.mk ?_)
  all_goals (try first | exact trivial | exact fun _ => trivial)
  all_goals (try dsimp only)
  all_goals (simp [lnErr] at h ⊢; omega)
def ptErr (x y : Int) : Int := if -65536 ≤ x ∧ x ≤ 65536 ∧ -65536 ≤ y ∧ y ≤ 65536 then 0 else 1
abbrev nPtCheck : FuncId := 261
def kPtCheck : Kon
 | [.agg [.int .i64 x, .int .i64 y]] => some (True, .int .i64 (ptErr x y))
 | _ => none
def FPtCheck : Fam := ⟨Int × Int, fun (x, y) => [.agg [.int .i64 x, .int .i64 y]], fun (x, y) => True, fun (x, y) => .int .i64 (ptErr x y)⟩
set_option maxHeartbeats 4000000 in
set_option maxRecDepth 100000 in
theorem pPtCheck : PS nPtCheck kPtCheck := by
 refine con [] (by simp) FPtCheck (fun _ _ => none) kPtCheck ?_ ?_ Go.Proofs.Tryz.func261 (by kernel_rfl) (by kernel_rfl) (by kernel_rfl) ?_
 ·
  intro args pre s h hp
  unfold kPtCheck at h
  split at h
  ·
   rename_i x y; cases h; exact ⟨(x, y), by simp [FPtCheck, le2L, SV.le2, SV.le1, le0L, SV.le0], hp, rfl⟩
  ·
   cases h
 ·
  intro i; show 1 ≤ _; decide
 ·
  rintro ⟨x, y⟩ hp
  replace hp : True := hp
  repeat' (first | ((with_reducible refine And.intro (Ask.mk ?_) ?_); first | exact trivial | exact fun _ => trivial) | with_reducible refine And.intro ?_ ?_ | ((with_reducible refine Br.litT ?_ ?_); exact (Eq.refl true)) | ((with_reducible refine Br.litF ?_ ?_); exact (Eq.refl false)) | with_reducible refine Br.mk (fun h => ?_) (fun h => ?_) | with_reducible exact True.intro | with_reducible refine rowEq ?_ | with_reducible refine Ub.mk (fun hu => ?_) | ((with_reducible refine Late.mk ?_); exact rfl) | ((fail_if_success (with_reducible first | refine stopA ?_ | refine stopE ?_ | refine stopF ?_ | refine Exists.intro ?_ ?_ | intro _ | refine stopK ?_ | refine stopL ?_)); conv => whnf))
  all_goals (try with_reducible refine Ask.mk ?_)
  all_goals (try first | exact trivial | exact fun _ => trivial)
  all_goals (try dsimp only)
  all_goals (simp [ptErr] at h ⊢; omega)
theorem ptErr_zero {x y : Int} (h : ptErr x y = 0) : -65536 ≤ x ∧ x ≤ 65536 ∧ -65536 ≤ y ∧ y ≤ 65536 := by
 unfold ptErr at h
 split at h
 ·
  assumption
 ·
  cases h
def tA (t : Int) : Int := tb [1, 0, -1, 0, -1, 0, 1, 0] t.toNat
def tB (t : Int) : Int := tb [0, -1, 0, 1, 0, -1, 0, 1] t.toNat
def tC (t : Int) : Int := tb [0, 1, 0, -1, 0, -1, 0, 1] t.toNat
def tD (t : Int) : Int := tb [1, 0, -1, 0, 1, 0, -1, 0] t.toNat
def unitI (a : Int) : Prop := -1 ≤ a ∧ a ≤ 1
theorem t_unit {t : Int} (h0 : 0 ≤ t) (h1 : t < 8) : unitI (tA t) ∧ unitI (tB t) ∧ unitI (tC t) ∧ unitI (tD t) := by
 have : ∀ q : Nat, q < 8 → unitI (tA q) ∧ unitI (tB q) ∧ unitI (tC q) ∧ unitI (tD q) := by unfold unitI; decide
 have := this t.toNat (by omega)
 rwa [Int.toNat_of_nonneg h0] at this
theorem unit_mul {a x : Int} (h : unitI a) : a * x = 0 ∨ a * x = x ∨ a * x = -x := by
 have h1 := h.1
 have h2 := h.2
 have : a = -1 ∨ a = 0 ∨ a = 1 := by omega
 rcases this with rfl | rfl | rfl <;> simp
abbrev nMatOf : FuncId := 129
def kMatOf : Kon
 | [.agg [.int .i64 a, .int .i64 b, .int .i64 c, .int .i64 d], .int .i64 x, .int .i64 y] => some (unitI a ∧ unitI b ∧ unitI c ∧ unitI d ∧ -1000000 ≤ x ∧ x ≤ 1000000 ∧ -1000000 ≤ y ∧ y ≤ 1000000, .tup [.int .i64 (a * x + b * y), .int .i64 (c * x + d * y)])
 | _ => none
def FMatOf : Fam := ⟨Int × Int × Int × Int × Int × Int, fun (a, b, c, d, x, y) => [.agg [.int .i64 a, .int .i64 b, .int .i64 c, .int .i64 d], .int .i64 x, .int .i64 y], fun (a, b, c, d, x, y) => unitI a ∧ unitI b ∧ unitI c ∧ unitI d ∧ -1000000 ≤ x ∧ x ≤ 1000000 ∧ -1000000 ≤ y ∧ y ≤ 1000000, fun (a, b, c, d, x, y) => .tup [.int .i64 (a * x + b * y), .int .i64 (c * x + d * y)]⟩
set_option maxHeartbeats 4000000 in
set_option maxRecDepth 100000 in
theorem pMatOf : PS nMatOf kMatOf := by
 refine con [] (by simp) FMatOf (fun _ _ => none) kMatOf ?_ ?_ Go.Proofs.Tryz.func129 (by kernel_rfl) (by kernel_rfl) (by kernel_rfl) ?_
 ·
  intro args pre s h hp
  unfold kMatOf at h
  split at h
  ·
   rename_i a b c d x y; cases h; exact ⟨(a, b, c, d, x, y), by simp [FMatOf, le2L, SV.le2, SV.le1, le0L, SV.le0], hp, rfl⟩
  ·
   cases h
 ·
  intro i; show 3 ≤ _; decide
 ·
  rintro ⟨a, b, c, d, x, y⟩ hp
  replace hp : unitI a ∧ unitI b ∧ unitI c ∧ unitI d ∧ -1000000 ≤ x ∧ x ≤ 1000000 ∧ -1000000 ≤ y ∧ y ≤ 1000000 := hp
  obtain ⟨ha, hb, hc, hd, hx⟩ := hp
  have e1 := unit_mul (x := x) ha
  have e2 := unit_mul (x := y) hb
  have e3 := unit_mul (x := x) hc
  have e4 := unit_mul (x := y) hd
  repeat' (first | ((with_reducible refine And.intro (Ask.mk ?_) ?_); first | exact trivial | exact fun _ => trivial) | with_reducible refine And.intro ?_ ?_ | ((with_reducible refine Br.litT ?_ ?_); exact (Eq.refl true)) | ((with_reducible refine Br.litF ?_ ?_); exact (Eq.refl false)) | with_reducible refine Br.mk (fun h => ?_) (fun h => ?_) | with_reducible exact True.intro | with_reducible refine rowEq ?_ | with_reducible refine Ub.mk (fun hu => ?_) | ((with_reducible refine Late.mk ?_); exact rfl) | ((fail_if_success (with_reducible first | refine stopA ?_ | refine stopE ?_ | refine stopF ?_ | refine Exists.intro ?_ ?_ | intro _ | refine stopK ?_ | refine stopL ?_)); conv => whnf))
  all_goals (try with_reducible refine Ask.mk ?_)
  all_goals (try first | exact trivial | exact fun _ => trivial)
  all_goals (try dsimp only)
  all_goals (first | rfl | (simp only [inK]; omega))
abbrev nMatThen : FuncId := 132
def kMatThen : Kon
 | [.agg [.int .i64 a, .int .i64 b, .int .i64 c, .int .i64 d], .agg [.int .i64 p, .int .i64 q, .int .i64 r, .int .i64 s]] => some ((unitI a ∧ unitI b ∧ unitI c ∧ unitI d) ∧ unitI p ∧ unitI q ∧ unitI r ∧ unitI s, .agg [.int .i64 (p * a + q * c), .int .i64 (p * b + q * d), .int .i64 (r * a + s * c), .int .i64 (r * b + s * d)])
 | _ => none
def FMatThen : Fam := ⟨Int × Int × Int × Int × Int × Int × Int × Int, fun (a, b, c, d, p, q, r, s) => [.agg [.int .i64 a, .int .i64 b, .int .i64 c, .int .i64 d], .agg [.int .i64 p, .int .i64 q, .int .i64 r, .int .i64 s]], fun (a, b, c, d, p, q, r, s) => (unitI a ∧ unitI b ∧ unitI c ∧ unitI d) ∧ unitI p ∧ unitI q ∧ unitI r ∧ unitI s, fun (a, b, c, d, p, q, r, s) => .agg [.int .i64 (p * a + q * c), .int .i64 (p * b + q * d), .int .i64 (r * a + s * c), .int .i64 (r * b + s * d)]⟩
set_option maxHeartbeats 4000000 in
set_option maxRecDepth 100000 in
theorem pMatThen : PS nMatThen kMatThen := by
 refine con [(nMatOf, kMatOf)] (by simpa using pMatOf) FMatThen (fun _ _ => none) kMatThen ?_ ?_ Go.Proofs.Tryz.func132 (by kernel_rfl) (by kernel_rfl) (by kernel_rfl) ?_
 ·
  intro args pre s h hp
  unfold kMatThen at h
  split at h
  ·
   rename_i a b c d p q r s; cases h; exact ⟨(a, b, c, d, p, q, r, s), by simp [FMatThen, le2L, SV.le2, SV.le1, le0L, SV.le0], hp, rfl⟩
  ·
   cases h
 ·
  intro i; show 2 ≤ _; decide
 ·
  rintro ⟨a, b, c, d, p, q, r, s⟩ hp
  replace hp : (unitI a ∧ unitI b ∧ unitI c ∧ unitI d) ∧ unitI p ∧ unitI q ∧ unitI r ∧ unitI s := hp
  obtain ⟨⟨ha, hb, hc, hd⟩, hP, hQ, hR, hS⟩ := hp
  repeat' (first | ((with_reducible refine And.intro (Ask.mk ?_) ?_); first | exact trivial | exact fun _ => trivial) | with_reducible refine And.intro ?_ ?_ | ((with_reducible refine Br.litT ?_ ?_); exact (Eq.refl true)) | ((with_reducible refine Br.litF ?_ ?_); exact (Eq.refl false)) | with_reducible refine Br.mk (fun h => ?_) (fun h => ?_) | with_reducible exact True.intro | with_reducible refine rowEq ?_ | with_reducible refine Ub.mk (fun hu => ?_) | ((with_reducible refine Late.mk ?_); exact rfl) | ((fail_if_success (with_reducible first | refine stopA ?_ | refine stopE ?_ | refine stopF ?_ | refine Exists.intro ?_ ?_ | intro _ | refine stopK ?_ | refine stopL ?_)); conv => whnf))
  all_goals (try with_reducible refine Ask.mk ?_)
  all_goals (try first | exact trivial | exact fun _ => trivial)
  all_goals (try dsimp only)
  all_goals (first | rfl | (simp only [unitI] at *; refine ⟨hP, hQ, hR, hS, ?_⟩; omega))
def rowM (i : Nat) (a b c d : Int) : Bool := decide (tb [1, 0, -1, 0, -1, 0, 1, 0] i = a) && (decide (tb [0, -1, 0, 1, 0, -1, 0, 1] i = b) && (decide (tb [0, 1, 0, -1, 0, -1, 0, 1] i = c) && (decide (tb [1, 0, -1, 0, 1, 0, -1, 0] i = d) && true)))
def numF (l : List Nat) (a b c d : Int) : Int := match l with
 | [] => 0
 | i :: l => bif rowM i a b c d then i else numF l a b c d
def numM (a b c d : Int) : Int := numF [0, 1, 2, 3, 4, 5, 6, 7] a b c d
def turnsAgg : SV := .agg (turnsRow 0 ++ turnsRow 1 ++ turnsRow 2 ++ turnsRow 3 ++ turnsRow 4 ++ turnsRow 5 ++ turnsRow 6 ++ turnsRow 7)
def INum : Int × Int × Int × Int → Nat → Option Inv
 | (a, b, c, d), 2 => some { β := Nat, ok := fun i => i ≤ 8 ∧ numM a b c d = numF ([0, 1, 2, 3, 4, 5, 6, 7].drop i) a b c d, st := fun i => ⟨[⟨6, none, .int .i64 i⟩, ⟨5, none, turnsAgg⟩, ⟨2, none, .int .u8 0⟩, ⟨1, none, .own 0 0⟩], [.cells 221 [.int .i64 a, .int .i64 b, .int .i64 c, .int .i64 d]]⟩, μ := fun i => 8 - i }
 | _, _ => none
theorem num_step (i : Nat) (l : List Nat) (a b c d : Int) (h : rowM i a b c d = false) : numF (i :: l) a b c d = numF l a b c d := by
 rw [numF, h, cond_false]
theorem num_hit (i : Nat) (l : List Nat) (a b c d : Int) (h : rowM i a b c d = true) : numF (i :: l) a b c d = i := by
 rw [numF, h, cond_true]
abbrev nNumber : FuncId := 131
def kNumber : Kon
 | [.agg [.int .i64 a, .int .i64 b, .int .i64 c, .int .i64 d]] => some (True, .int .u8 (numM a b c d))
 | _ => none
def FNumber : Fam := ⟨Int × Int × Int × Int, fun (a, b, c, d) => [.agg [.int .i64 a, .int .i64 b, .int .i64 c, .int .i64 d]], fun (a, b, c, d) => True, fun (a, b, c, d) => .int .u8 (numM a b c d)⟩
set_option maxHeartbeats 4000000 in
set_option maxRecDepth 100000 in
theorem pNumber : PS nNumber kNumber := by
 refine con [] (by simp) FNumber INum kNumber ?_ ?_ Go.Proofs.Tryz.func131 (by kernel_rfl) (by kernel_rfl) (by kernel_rfl) ?_
 ·
  intro args pre s h hp
  unfold kNumber at h
  split at h
  ·
   rename_i a b c d; cases h; exact ⟨(a, b, c, d), by simp [FNumber, le2L, SV.le2, SV.le1, le0L, SV.le0], hp, rfl⟩
  ·
   cases h
 ·
  intro i; show 1 ≤ _; decide
 ·
  rintro ⟨a, b, c, d⟩ hp
  replace hp : True := hp
  repeat' (first | ((with_reducible refine And.intro (Ask.mk ?_) ?_); first | exact trivial | exact fun _ => trivial) | with_reducible refine And.intro ?_ ?_ | ((with_reducible refine Br.litT ?_ ?_); exact (Eq.refl true)) | ((with_reducible refine Br.litF ?_ ?_); exact (Eq.refl false)) | with_reducible refine Br.mk (fun h => ?_) (fun h => ?_) | with_reducible exact True.intro | with_reducible refine rowEq ?_ | with_reducible refine Ub.mk (fun hu => ?_) | ((with_reducible refine Late.mk ?_); exact rfl) | ((fail_if_success (with_reducible first | refine stopA ?_ | refine stopE ?_ | refine stopF ?_ | refine Exists.intro ?_ ?_ | intro _ | refine stopK ?_ | refine stopL ?_)); conv => whnf))
  all_goals (try with_reducible refine Ask.mk ?_)
  all_goals (try first | exact trivial | exact fun _ => trivial)
  all_goals (try dsimp only)
  refine ⟨(0 : Nat), ⟨by omega, rfl⟩, ?_, ?_⟩
  ·
   repeat' (first | ((with_reducible refine And.intro (Ask.mk ?_) ?_); first | exact trivial | exact fun _ => trivial) | with_reducible refine And.intro ?_ ?_ | ((with_reducible refine Br.litT ?_ ?_); exact (Eq.refl true)) | ((with_reducible refine Br.litF ?_ ?_); exact (Eq.refl false)) | with_reducible refine Br.mk (fun h => ?_) (fun h => ?_) | with_reducible exact True.intro | with_reducible refine rowEq ?_ | with_reducible refine Ub.mk (fun hu => ?_) | ((with_reducible refine Late.mk ?_); exact rfl) | ((fail_if_success (with_reducible first | refine stopA ?_ | refine stopE ?_ | refine stopF ?_ | refine Exists.intro ?_ ?_ | intro _ | refine stopK ?_ | refine stopL ?_)); conv => whnf))
   all_goals (try with_reducible refine Ask.mk ?_)
   all_goals (try first | exact trivial | exact fun _ => trivial)
   all_goals (try dsimp only)
   all_goals first | rfl | exact fun _ _ => rfl | skip
  ·
   intro i hi
   obtain ⟨hi1, hi2⟩ := hi
   have : i = 0 ∨ i = 1 ∨ i = 2 ∨ i = 3 ∨ i = 4 ∨ i = 5 ∨ i = 6 ∨ i = 7 ∨ i = 8 := by omega
   rcases this with rfl | rfl | rfl | rfl | rfl | rfl | rfl | rfl | rfl
   all_goals replace hi2 := hi2
   repeat' (first | ((with_reducible refine And.intro (Ask.mk ?_) ?_); first | exact trivial | exact fun _ => trivial) | with_reducible refine And.intro ?_ ?_ | ((with_reducible refine Br.litT ?_ ?_); exact (Eq.refl true)) | ((with_reducible refine Br.litF ?_ ?_); exact (Eq.refl false)) | with_reducible refine Br.mk (fun h => ?_) (fun h => ?_) | with_reducible exact True.intro | with_reducible refine rowEq ?_ | with_reducible refine Ub.mk (fun hu => ?_) | ((with_reducible refine Late.mk ?_); exact rfl) | ((fail_if_success (with_reducible first | refine stopA ?_ | refine stopE ?_ | refine stopF ?_ | refine Exists.intro ?_ ?_ | intro _ | refine stopK ?_ | refine stopL ?_)); conv => whnf))
   all_goals (try with_reducible refine Ask.mk ?_)
   all_goals (try first | exact trivial | exact fun _ => trivial)
   all_goals (try dsimp only)
   all_goals (first
    | decide
    | (simp only [inK]; omega)
    | exact hi2.symm
    | exact (hi2.trans (num_hit _ _ _ _ _ _ h)).symm
    | (first | refine ⟨(1 : Nat), ⟨by decide, hi2.trans (num_step 0 _ _ _ _ _ h)⟩, by decide, ?_⟩ | refine ⟨(2 : Nat), ⟨by decide, hi2.trans (num_step 1 _ _ _ _ _ h)⟩, by decide, ?_⟩ | refine ⟨(3 : Nat), ⟨by decide, hi2.trans (num_step 2 _ _ _ _ _ h)⟩, by decide, ?_⟩ | refine ⟨(4 : Nat), ⟨by decide, hi2.trans (num_step 3 _ _ _ _ _ h)⟩, by decide, ?_⟩ | refine ⟨(5 : Nat), ⟨by decide, hi2.trans (num_step 4 _ _ _ _ _ h)⟩, by decide, ?_⟩ | refine ⟨(6 : Nat), ⟨by decide, hi2.trans (num_step 5 _ _ _ _ _ h)⟩, by decide, ?_⟩ | refine ⟨(7 : Nat), ⟨by decide, hi2.trans (num_step 6 _ _ _ _ _ h)⟩, by decide, ?_⟩ | refine ⟨(8 : Nat), ⟨by decide, hi2.trans (num_step 7 _ _ _ _ _ h)⟩, by decide, ?_⟩))
   repeat' (first | ((with_reducible refine And.intro (Ask.mk ?_) ?_); first | exact trivial | exact fun _ => trivial) | with_reducible refine And.intro ?_ ?_ | ((with_reducible refine Br.litT ?_ ?_); exact (Eq.refl true)) | ((with_reducible refine Br.litF ?_ ?_); exact (Eq.refl false)) | with_reducible refine Br.mk (fun h => ?_) (fun h => ?_) | with_reducible exact True.intro | with_reducible refine rowEq ?_ | with_reducible refine Ub.mk (fun hu => ?_) | ((with_reducible refine Late.mk ?_); exact rfl) | ((fail_if_success (with_reducible first | refine stopA ?_ | refine stopE ?_ | refine stopF ?_ | refine Exists.intro ?_ ?_ | intro _ | refine stopK ?_ | refine stopL ?_)); conv => whnf))
   all_goals (try with_reducible refine Ask.mk ?_)
   all_goals (try first | exact trivial | exact fun _ => trivial)
   all_goals (try dsimp only)
   all_goals first | rfl | exact fun _ _ => rfl | omega
def cT (t u : Int) : Int := numM (tA u * tA t + tB u * tC t) (tA u * tB t + tB u * tD t) (tC u * tA t + tD u * tC t) (tC u * tB t + tD u * tD t)
theorem cT_le {t u : Int} (h0 : 0 ≤ t) (h1 : t < 8) (k0 : 0 ≤ u) (k1 : u < 8) : 0 ≤ cT t u ∧ cT t u < 8 := by
 have : ∀ q : Nat, q < 8 → ∀ r : Nat, r < 8 → 0 ≤ cT q r ∧ cT q r < 8 := by decide +kernel
 have := this t.toNat (by omega) u.toNat (by omega)
 rwa [Int.toNat_of_nonneg h0, Int.toNat_of_nonneg k0] at this
abbrev nBeyond : FuncId := 202
def kBeyond : Kon
 | [.int .i64 n] => some (True, .bool (or (decide (n < -16384)) (decide (16384 < n))))
 | _ => none
def FBeyond : Fam := ⟨Int, fun n => [.int .i64 n], fun n => True, fun n => .bool (or (decide (n < -16384)) (decide (16384 < n)))⟩
set_option maxHeartbeats 4000000 in
set_option maxRecDepth 100000 in
theorem pBeyond : PS nBeyond kBeyond := by
 refine con [] (by simp) FBeyond (fun _ _ => none) kBeyond ?_ ?_ Go.Proofs.Tryz.func202 (by kernel_rfl) (by kernel_rfl) (by kernel_rfl) ?_
 ·
  intro args pre s h hp
  unfold kBeyond at h
  split at h
  ·
   rename_i n; cases h; exact ⟨n, by simp [FBeyond, le2L, SV.le2, SV.le1, le0L, SV.le0], hp, rfl⟩
  ·
   cases h
 ·
  intro i; show 1 ≤ _; decide
 ·
  intro (n : Int) hp
  replace hp : True := hp
  repeat' (first | ((with_reducible refine And.intro (Ask.mk ?_) ?_); first | exact trivial | exact fun _ => trivial) | with_reducible refine And.intro ?_ ?_ | ((with_reducible refine Br.litT ?_ ?_); exact (Eq.refl true)) | ((with_reducible refine Br.litF ?_ ?_); exact (Eq.refl false)) | with_reducible refine Br.mk (fun h => ?_) (fun h => ?_) | with_reducible exact True.intro | with_reducible refine rowEq ?_ | with_reducible refine Ub.mk (fun hu => ?_) | ((with_reducible refine Late.mk ?_); exact rfl) | ((fail_if_success (with_reducible first | refine stopA ?_ | refine stopE ?_ | refine stopF ?_ | refine Exists.intro ?_ ?_ | intro _ | refine stopK ?_ | refine stopL ?_)); conv => whnf))
  all_goals (try with_reducible refine Ask.mk ?_)
  all_goals (try first | exact trivial | exact fun _ => trivial)
  all_goals (try dsimp only)
  all_goals rfl
def mvErr (t x y : Int) : Int := if t < 8 ∧ -16384 ≤ x ∧ x ≤ 16384 ∧ -16384 ≤ y ∧ y ≤ 16384 ∧ (x + y) % 2 = 0 then 0 else 1
theorem mvErr_zero {t x y : Int} (h : mvErr t x y = 0) : t < 8 ∧ -16384 ≤ x ∧ x ≤ 16384 ∧ -16384 ≤ y ∧ y ≤ 16384 ∧ (x + y) % 2 = 0 := by
 unfold mvErr at h
 split at h
 ·
  assumption
 ·
  cases h
theorem tmod2 (n : Int) : n.tmod 2 = 0 ↔ n % 2 = 0 := by
 rw [← Int.dvd_iff_emod_eq_zero, Int.dvd_iff_tmod_eq_zero]
abbrev nMvCheck : FuncId := 128
def kMvCheck : Kon
 | [.agg [.int .u8 t, .int .i64 x, .int .i64 y]] => some (0 ≤ t ∧ t ≤ 255, .int .i64 (mvErr t x y))
 | _ => none
def FMvCheck : Fam := ⟨Int × Int × Int, fun (t, x, y) => [.agg [.int .u8 t, .int .i64 x, .int .i64 y]], fun (t, x, y) => 0 ≤ t ∧ t ≤ 255, fun (t, x, y) => .int .i64 (mvErr t x y)⟩
set_option maxHeartbeats 4000000 in
set_option maxRecDepth 100000 in
theorem pMvCheck : PS nMvCheck kMvCheck := by
 refine con [(nBeyond, kBeyond)] (by simpa using pBeyond) FMvCheck (fun _ _ => none) kMvCheck ?_ ?_ Go.Proofs.Tryz.func128 (by kernel_rfl) (by kernel_rfl) (by kernel_rfl) ?_
 ·
  intro args pre s h hp
  unfold kMvCheck at h
  split at h
  ·
   rename_i t x y; cases h; exact ⟨(t, x, y), by simp [FMvCheck, le2L, SV.le2, SV.le1, le0L, SV.le0], hp, rfl⟩
  ·
   cases h
 ·
  intro i; show 1 ≤ _; decide
 ·
  rintro ⟨t, x, y⟩ hp
  replace hp : 0 ≤ t ∧ t ≤ 255 := hp
  repeat' (first | ((with_reducible refine And.intro (Ask.mk ?_) ?_); first | exact trivial | exact fun _ => trivial) | with_reducible refine And.intro ?_ ?_ | ((with_reducible refine Br.litT ?_ ?_); exact (Eq.refl true)) | ((with_reducible refine Br.litF ?_ ?_); exact (Eq.refl false)) | with_reducible refine Br.mk (fun h => ?_) (fun h => ?_) | with_reducible exact True.intro | with_reducible refine rowEq ?_ | with_reducible refine Ub.mk (fun hu => ?_) | ((with_reducible refine Late.mk ?_); exact rfl) | ((fail_if_success (with_reducible first | refine stopA ?_ | refine stopE ?_ | refine stopF ?_ | refine Exists.intro ?_ ?_ | intro _ | refine stopK ?_ | refine stopL ?_)); conv => whnf))
  all_goals (try with_reducible refine Ask.mk ?_)
  all_goals (try first | exact trivial | exact fun _ => trivial)
  all_goals (try dsimp only)
  all_goals (try (simp only [Bool.or_eq_true, Bool.or_eq_false_iff, Bool.not_eq_true', Bool.not_eq_false', decide_eq_true_eq, decide_eq_false_iff_not] at *))
  all_goals (first
   | decide
   | (simp only [inK]; omega)
   | (unfold mvErr; rw [if_neg (by omega)])
   | (intro _; decide)
   | (intros; simp only [inK]; omega)
   | (intros; unfold mvErr; rw [if_neg (by omega)])
   | (have e := tmod2 (x + y); unfold mvErr; rw [if_pos (by omega)])
   | (have e := tmod2 (x + y); unfold mvErr; rw [if_neg (by omega)]))
def lmE (t x y : Int) : Int := if mvErr t x y = 0 then 0 else 3
def keep (e v : Int) : Int := if e = 0 then v else 0
abbrev nLimited : FuncId := 130
def kLimited : Kon
 | [.agg [.int .u8 t, .int .i64 x, .int .i64 y]] => some (0 ≤ t ∧ t ≤ 255, .tup [.agg [.int .u8 (keep (lmE t x y) t), .int .i64 (keep (lmE t x y) x), .int .i64 (keep (lmE t x y) y)], .int .i64 (lmE t x y)])
 | _ => none
def FLimited : Fam := ⟨Int × Int × Int, fun (t, x, y) => [.agg [.int .u8 t, .int .i64 x, .int .i64 y]], fun (t, x, y) => 0 ≤ t ∧ t ≤ 255, fun (t, x, y) => .tup [.agg [.int .u8 (keep (lmE t x y) t), .int .i64 (keep (lmE t x y) x), .int .i64 (keep (lmE t x y) y)], .int .i64 (lmE t x y)]⟩
set_option maxHeartbeats 4000000 in
set_option maxRecDepth 100000 in
theorem pLimited : PS nLimited kLimited := by
 refine con [(nMvCheck, kMvCheck)] (by simpa using pMvCheck) FLimited (fun _ _ => none) kLimited ?_ ?_ Go.Proofs.Tryz.func130 (by kernel_rfl) (by kernel_rfl) (by kernel_rfl) ?_
 ·
  intro args pre s h hp
  unfold kLimited at h
  split at h
  ·
   rename_i t x y; cases h; exact ⟨(t, x, y), by simp [FLimited, le2L, SV.le2, SV.le1, le0L, SV.le0], hp, rfl⟩
  ·
   cases h
 ·
  intro i; show 1 ≤ _; decide
 ·
  rintro ⟨t, x, y⟩ hp
  replace hp : 0 ≤ t ∧ t ≤ 255 := hp
  repeat' (first | ((with_reducible refine And.intro (Ask.mk ?_) ?_); first | exact trivial | exact fun _ => trivial) | with_reducible refine And.intro ?_ ?_ | ((with_reducible refine Br.litT ?_ ?_); exact (Eq.refl true)) | ((with_reducible refine Br.litF ?_ ?_); exact (Eq.refl false)) | with_reducible refine Br.mk (fun h => ?_) (fun h => ?_) | with_reducible exact True.intro | with_reducible refine rowEq ?_ | with_reducible refine Ub.mk (fun hu => ?_) | ((with_reducible refine Late.mk ?_); exact rfl) | ((fail_if_success (with_reducible first | refine stopA ?_ | refine stopE ?_ | refine stopF ?_ | refine Exists.intro ?_ ?_ | intro _ | refine stopK ?_ | refine stopL ?_)); conv => whnf))
  all_goals (try with_reducible refine Ask.mk ?_)
  all_goals (try first | exact trivial | exact fun _ => trivial)
  all_goals (try dsimp only)
  all_goals (try exact hp)
  all_goals (simp only [Bool.not_eq_true', Bool.not_eq_false', decide_eq_true_eq, decide_eq_false_iff_not] at h)
  all_goals (simp [keep, lmE, h])
def turnX (t x y : Int) : Int := tA t * x + tB t * y
def turnY (t x y : Int) : Int := tC t * x + tD t * y
def thE (t x y u z w : Int) : Int := if mvErr t x y = 0 ∧ mvErr u z w = 0 then lmE (cT t u) (turnX u x y + z) (turnY u x y + w) else 1
def thT (t x y u z w : Int) : Int := keep (thE t x y u z w) (cT t u)
def thX (t x y u z w : Int) : Int := keep (thE t x y u z w) (turnX u x y + z)
def thY (t x y u z w : Int) : Int := keep (thE t x y u z w) (turnY u x y + w)
theorem turn_le {t x y B : Int} (h0 : 0 ≤ t) (h1 : t < 8) (a1 : -B ≤ x) (a2 : x ≤ B) (b1 : -B ≤ y) (b2 : y ≤ B) : -(2 * B) ≤ turnX t x y ∧ turnX t x y ≤ 2 * B ∧ -(2 * B) ≤ turnY t x y ∧ turnY t x y ≤ 2 * B := by
 obtain ⟨ha, hb, hc, hd⟩ := t_unit h0 h1
 have e1 := unit_mul (x := x) ha
 have e2 := unit_mul (x := y) hb
 have e3 := unit_mul (x := x) hc
 have e4 := unit_mul (x := y) hd
 unfold turnX turnY
 omega
abbrev nThen : FuncId := 58
def kThen : Kon
 | [.agg [.int .u8 t, .int .i64 x, .int .i64 y], .agg [.int .u8 u, .int .i64 z, .int .i64 w]] => some ((0 ≤ t ∧ t ≤ 255) ∧ 0 ≤ u ∧ u ≤ 255, .tup [.agg [.int .u8 (thT t x y u z w), .int .i64 (thX t x y u z w), .int .i64 (thY t x y u z w)], .int .i64 (thE t x y u z w)])
 | _ => none
def FThen : Fam := ⟨Int × Int × Int × Int × Int × Int, fun (t, x, y, u, z, w) => [.agg [.int .u8 t, .int .i64 x, .int .i64 y], .agg [.int .u8 u, .int .i64 z, .int .i64 w]], fun (t, x, y, u, z, w) => (0 ≤ t ∧ t ≤ 255) ∧ 0 ≤ u ∧ u ≤ 255, fun (t, x, y, u, z, w) => .tup [.agg [.int .u8 (thT t x y u z w), .int .i64 (thX t x y u z w), .int .i64 (thY t x y u z w)], .int .i64 (thE t x y u z w)]⟩
set_option maxHeartbeats 4000000 in
set_option maxRecDepth 100000 in
theorem pThen : PS nThen kThen := by
  refine con [(nMvCheck, kMvCheck), (nMatOf, kMatOf), (nMatThen, kMatThen), (nNumber, kNumber), (nLimited, kLimited)] (by simpa using ⟨pMvCheck, pMatOf, pMatThen, pNumber, pLimited⟩) FThen (fun _ _ => none) kThen ?_ ?_ Go.Proofs.Tryz.func58 (by kernel_rfl) (by kernel_rfl) (by kernel_rfl) ?_
  · intro args pre s h hp
    unfold kThen at h
    split at h
    · rename_i t x y u z w; cases h; exact ⟨(t, x, y, u, z, w), by simp [FThen, le2L, SV.le2, SV.le1, le0L, SV.le0], hp, rfl⟩
    · cases h
  · intro i; show 2 ≤ _; decide
  · rintro ⟨t, x, y, u, z, w⟩ hp
    replace hp : (0 ≤ t ∧ t ≤ 255) ∧ 0 ≤ u ∧ u ≤ 255 := hp
    repeat' (first | ((with_reducible refine And.intro (Ask.mk ?_) ?_); first | exact trivial | exact fun _ => trivial) | with_reducible refine And.intro ?_ ?_ | ((with_reducible refine Br.litT ?_ ?_); exact (Eq.refl true)) | ((with_reducible refine Br.litF ?_ ?_); exact (Eq.refl false)) | with_reducible refine Br.mk (fun h => ?_) (fun h => ?_) | with_reducible exact True.intro | with_reducible refine rowEq ?_ | with_reducible refine Ub.mk (fun hu => ?_) | ((with_reducible refine Late.mk ?_); exact rfl) | ((fail_if_success (with_reducible first | refine stopA ?_ | refine stopE ?_ | refine stopF ?_ | refine Exists.intro ?_ ?_ | intro _ | refine stopK ?_ | refine stopL ?_)); conv => whnf))
    all_goals (try with_reducible refine Ask.mk ?_)
    all_goals (try first | exact trivial | exact fun _ => trivial)
    all_goals (try dsimp only)
    all_goals (first
      | exact hp.1
      | exact fun _ => hp.2
      | (have e : thE t x y u z w = 1 := by grind [thE]
         simp [thT, thX, thY, keep, e]; done)
      | (rw [Bool.or_eq_false_iff] at h
         have e1 : mvErr t x y = 0 := by simpa using h.1
         have e2 : mvErr u z w = 0 := by simpa using h.2
         have m1 := mvErr_zero e1
         have m2 := mvErr_zero e2
         have r := turn_le (t := u) (x := x) (y := y) (B := 16384) hp.2.1 m2.1 (by omega) (by omega) (by omega) (by omega)
         have c := cT_le hp.1.1 m1.1 hp.2.1 m2.1
         have u1 := t_unit hp.1.1 m1.1
         have u2 := t_unit hp.2.1 m2.1
         first
         | (constructor <;> omega)
         | exact ⟨u2.1, u2.2.1, u2.2.2.1, u2.2.2.2, by omega, by omega, by omega, by omega⟩
         | exact ⟨u1, u2⟩
         | (change inK .i64 (turnX u x y + z); simp only [inK]; omega)
         | (change inK .i64 (turnY u x y + w); simp only [inK]; omega)
         | (refine ⟨c.1, ?_⟩; change cT t u ≤ 255; omega)
         | (have e : thE t x y u z w = lmE (cT t u) (turnX u x y + z) (turnY u x y + w) := by unfold thE; rw [if_pos ⟨e1, e2⟩]
            first | exact e.symm | (unfold thT; rw [e]; rfl) | (unfold thX; rw [e]; rfl) | (unfold thY; rw [e]; rfl)))
      | trace_state)
def poE (t x y a b : Int) : Int := if mvErr t x y = 0 ∧ ptErr a b = 0 then (if ptErr (turnX t a b + 2 * x) (turnY t a b + 2 * y) = 0 then 0 else 3) else 1
def poX (t x y a b : Int) : Int := keep (poE t x y a b) (turnX t a b + 2 * x)
def poY (t x y a b : Int) : Int := keep (poE t x y a b) (turnY t a b + 2 * y)
abbrev nMvPoint : FuncId := 273
def kMvPoint : Kon
 | [.agg [.int .u8 t, .int .i64 x, .int .i64 y], .agg [.int .i64 a, .int .i64 b]] => some (0 ≤ t ∧ t ≤ 255, .tup [.agg [.int .i64 (poX t x y a b), .int .i64 (poY t x y a b)], .int .i64 (poE t x y a b)])
 | _ => none
def FMvPoint : Fam := ⟨Int × Int × Int × Int × Int, fun (t, x, y, a, b) => [.agg [.int .u8 t, .int .i64 x, .int .i64 y], .agg [.int .i64 a, .int .i64 b]], fun (t, x, y, a, b) => 0 ≤ t ∧ t ≤ 255, fun (t, x, y, a, b) => .tup [.agg [.int .i64 (poX t x y a b), .int .i64 (poY t x y a b)], .int .i64 (poE t x y a b)]⟩
set_option maxHeartbeats 4000000 in
set_option maxRecDepth 100000 in
theorem pMvPoint : PS nMvPoint kMvPoint := by
  refine con [(nMvCheck, kMvCheck), (nMatOf, kMatOf), (nPtCheck, kPtCheck)] (by simpa using ⟨pMvCheck, pMatOf, pPtCheck⟩) FMvPoint (fun _ _ => none) kMvPoint ?_ ?_ Go.Proofs.Tryz.func273 (by kernel_rfl) (by kernel_rfl) (by kernel_rfl) ?_
  · intro args pre s h hp
    unfold kMvPoint at h
    split at h
    · rename_i t x y a b; cases h; exact ⟨(t, x, y, a, b), by simp [FMvPoint, le2L, SV.le2, SV.le1, le0L, SV.le0], hp, rfl⟩
    · cases h
  · intro i; show 2 ≤ _; decide
  · rintro ⟨t, x, y, a, b⟩ hp
    replace hp : 0 ≤ t ∧ t ≤ 255 := hp
    repeat' (first | ((with_reducible refine And.intro (Ask.mk ?_) ?_); first | exact trivial | exact fun _ => trivial) | with_reducible refine And.intro ?_ ?_ | ((with_reducible refine Br.litT ?_ ?_); exact (Eq.refl true)) | ((with_reducible refine Br.litF ?_ ?_); exact (Eq.refl false)) | with_reducible refine Br.mk (fun h => ?_) (fun h => ?_) | with_reducible exact True.intro | with_reducible refine rowEq ?_ | with_reducible refine Ub.mk (fun hu => ?_) | ((with_reducible refine Late.mk ?_); exact rfl) | ((fail_if_success (with_reducible first | refine stopA ?_ | refine stopE ?_ | refine stopF ?_ | refine Exists.intro ?_ ?_ | intro _ | refine stopK ?_ | refine stopL ?_)); conv => whnf))
    all_goals (try with_reducible refine Ask.mk ?_)
    all_goals (try first | exact trivial | exact fun _ => trivial)
    all_goals (try dsimp only)
    all_goals (first
      | exact hp
      | (have e : poE t x y a b = 1 := by grind [poE]
         simp [poX, poY, keep, e]; done)
      | (have h1 : (!decide (mvErr t x y = 0) || !decide (ptErr a b = 0)) = false := by assumption
         rw [Bool.or_eq_false_iff] at h1
         have e1 : mvErr t x y = 0 := by simpa using h1.1
         have e2 : ptErr a b = 0 := by simpa using h1.2
         have m1 := mvErr_zero e1
         have m2 := ptErr_zero e2
         have r := turn_le (t := t) (x := a) (y := b) (B := 65536) hp.1 m1.1 (by omega) (by omega) (by omega) (by omega)
         have u1 := t_unit hp.1 m1.1
         first
         | (constructor <;> omega)
         | exact ⟨u1.1, u1.2.1, u1.2.2.1, u1.2.2.2, by omega, by omega, by omega, by omega⟩
         | (change inK .i64 (turnX t a b + 2 * x); simp only [inK]; omega)
         | (change inK .i64 (turnY t a b + 2 * y); simp only [inK]; omega)
         | (simp only [inK]; omega)
         | (have e : poE t x y a b = (if ptErr (turnX t a b + 2 * x) (turnY t a b + 2 * y) = 0 then 0 else 3) := by unfold poE; rw [if_pos ⟨e1, e2⟩]
            first
            | (have q : ptErr (turnX t a b + 2 * x) (turnY t a b + 2 * y) = 0 := by (change (!decide (ptErr (turnX t a b + 2 * x) (turnY t a b + 2 * y) = 0)) = false at h; simpa using h)
               rw [if_pos q] at e
               simp only [poX, poY, keep, e, if_true]; try rfl)
            | (have q : ¬ ptErr (turnX t a b + 2 * x) (turnY t a b + 2 * y) = 0 := by (change (!decide (ptErr (turnX t a b + 2 * x) (turnY t a b + 2 * y) = 0)) = true at h; simpa using h)
               rw [if_neg q] at e
               simp [poX, poY, keep, e]; done)))
      | trace_state)
def shErr (W H : Int) : Int := if 1 ≤ W ∧ 1 ≤ H ∧ W ≤ 256 ∧ H ≤ 256 ∧ W * H ≤ 256 then 0 else 1
theorem shErr_mul {W H : Int} (h1 : 1 ≤ W) (h2 : 1 ≤ H) (h3 : W ≤ 256) (h4 : H ≤ 256) : 1 ≤ W * H ∧ W * H ≤ 65536 := by
 have a : 1 * 1 ≤ W * H := Int.mul_le_mul h1 h2 (by omega) (by omega)
 have b : W * H ≤ 256 * 256 := Int.mul_le_mul h3 h4 (by omega) (by omega)
 omega
abbrev nSheetsCheck : FuncId := 11
def kSheetsCheck : Kon
 | [.agg [.int .i64 W, .int .i64 H]] => some (True, .int .i64 (shErr W H))
 | _ => none
def FSheetsCheck : Fam := ⟨Int × Int, fun (W, H) => [.agg [.int .i64 W, .int .i64 H]], fun _ => True, fun (W, H) => .int .i64 (shErr W H)⟩
set_option maxRecDepth 100000 in
theorem pSheetsCheck : PS 11 kSheetsCheck := by
 refine con [] (by simp) FSheetsCheck (fun _ _ => none) kSheetsCheck ?_ ?_ Go.Proofs.Tryz.func11 (by kernel_rfl) (by kernel_rfl) (by kernel_rfl) ?_
 ·
  intro args pre s h hp
  unfold kSheetsCheck at h
  split at h
  ·
   rename_i W H; cases h; exact ⟨(W, H), by simp [FSheetsCheck, le2L, SV.le2, SV.le1, le0L, SV.le0], trivial, rfl⟩
  ·
   cases h
 ·
  intro i; show 1 ≤ _; decide
 ·
  rintro ⟨W, H⟩ -
  repeat' (first | ((with_reducible refine And.intro (Ask.mk ?_) ?_); first | exact trivial | exact fun _ => trivial) | with_reducible refine And.intro ?_ ?_ | ((with_reducible refine Br.litT ?_ ?_); exact (Eq.refl true)) | ((with_reducible refine Br.litF ?_ ?_); exact (Eq.refl false)) | with_reducible refine Br.mk (fun h => ?_) (fun h => ?_) | with_reducible exact True.intro | with_reducible refine rowEq ?_ | with_reducible refine Ub.mk (fun hu => ?_) | ((with_reducible refine Late.mk ?_); exact rfl) | ((fail_if_success (with_reducible first | refine stopA ?_ | refine stopE ?_ | refine stopF ?_ | refine Exists.intro ?_ ?_ | intro _ | refine stopK ?_ | refine stopL ?_)); conv => whnf))
  all_goals (try with_reducible refine Ask.mk ?_)
  all_goals (try first | exact trivial | exact fun _ => trivial)
  all_goals (try dsimp only)
  ·
   intro h
   simp at h
   have := shErr_mul (W := W) (H := H) (by omega) (by omega) (by omega) (by omega)
   simp only [inK]; omega
  ·
   simp [shErr] at h ⊢; omega
  ·
   simp [shErr] at h ⊢; omega
def hasB (W H i : Int) : Bool := decide (0 ≤ i) && decide (i < 4 * W * H)
def kHas : Kon
 | [.agg [.int .i64 W, .int .i64 H], .int .i64 i] => some (shErr W H = 0, .bool (hasB W H i))
 | _ => none
def FHas : Fam := ⟨Int × Int × Int, fun (W, H, i) => [.agg [.int .i64 W, .int .i64 H], .int .i64 i], fun (W, H, i) => shErr W H = 0, fun (W, H, i) => .bool (hasB W H i)⟩
theorem shErr_zero {W H : Int} (h : shErr W H = 0) : 1 ≤ W ∧ 1 ≤ H ∧ W ≤ 256 ∧ H ≤ 256 ∧ 1 ≤ W * H ∧ W * H ≤ 256 ∧ 4 * W * H = 4 * (W * H) := by
 unfold shErr at h
 split at h
 ·
  rename_i hc
  obtain ⟨h1, h2, h3, h4, h5⟩ := hc
  have := shErr_mul h1 h2 h3 h4
  exact ⟨h1, h2, h3, h4, this.1, h5, Int.mul_assoc _ _ _⟩
 ·
  cases h
set_option maxRecDepth 100000 in
theorem pHas : PS 215 kHas := by
 refine con [] (by simp) FHas (fun _ _ => none) kHas ?_ ?_ Go.Proofs.Tryz.func215 (by kernel_rfl) (by kernel_rfl) (by kernel_rfl) ?_
 ·
  intro args pre s h hp
  unfold kHas at h
  split at h
  ·
   rename_i W H i; cases h; exact ⟨(W, H, i), by simp [FHas, le2L, SV.le2, SV.le1, le0L, SV.le0], hp, rfl⟩
  ·
   cases h
 ·
  intro i; show 2 ≤ _; decide
 ·
  rintro ⟨W, H, i⟩ hp
  obtain ⟨h1, h2, h3, h4, h5, h6, h7⟩ := shErr_zero hp
  repeat' (first | ((with_reducible refine And.intro (Ask.mk ?_) ?_); first | exact trivial | exact fun _ => trivial) | with_reducible refine And.intro ?_ ?_ | ((with_reducible refine Br.litT ?_ ?_); exact (Eq.refl true)) | ((with_reducible refine Br.litF ?_ ?_); exact (Eq.refl false)) | with_reducible refine Br.mk (fun h => ?_) (fun h => ?_) | with_reducible exact True.intro | with_reducible refine rowEq ?_ | with_reducible refine Ub.mk (fun hu => ?_) | ((with_reducible refine Late.mk ?_); exact rfl) | ((fail_if_success (with_reducible first | refine stopA ?_ | refine stopE ?_ | refine stopF ?_ | refine Exists.intro ?_ ?_ | intro _ | refine stopK ?_ | refine stopL ?_)); conv => whnf))
  all_goals (try with_reducible refine Ask.mk ?_)
  all_goals (try first | exact trivial | exact fun _ => trivial)
  all_goals (try dsimp only)
  ·
   intro _; simp only [inK]; omega
  ·
   intro _; simp only [inK]; omega
  ·
   rfl
def kCell : Kon
 | [.agg [.int .i64 W, .int .i64 H], .int .i64 i] => some (1 ≤ W ∧ W ≤ 256 ∧ 0 ≤ i ∧ i ≤ 1024, .agg [.int .i64 (i / 4 % W), .int .i64 (i / 4 / W), .int .u8 (i % 4)])
 | _ => none
def FCell : Fam := ⟨Int × Int × Int, fun (W, H, i) => [.agg [.int .i64 W, .int .i64 H], .int .i64 i], fun (W, H, i) => 1 ≤ W ∧ W ≤ 256 ∧ 0 ≤ i ∧ i ≤ 1024, fun (W, H, i) => .agg [.int .i64 (i / 4 % W), .int .i64 (i / 4 / W), .int .u8 (i % 4)]⟩
set_option maxRecDepth 100000 in
theorem pCell : PS 216 kCell := by
 refine con [] (by simp) FCell (fun _ _ => none) kCell ?_ ?_ Go.Proofs.Tryz.func216 (by kernel_rfl) (by kernel_rfl) (by kernel_rfl) ?_
 ·
  intro args pre s h hp
  unfold kCell at h
  split at h
  ·
   rename_i W H i; cases h; exact ⟨(W, H, i), by simp [FCell, le2L, SV.le2, SV.le1, le0L, SV.le0], hp, rfl⟩
  ·
   cases h
 ·
  intro i; show 2 ≤ _; decide
 ·
  rintro ⟨W, H, i⟩ ⟨h1, h2, h3, h4⟩
  have a1 : i.tdiv 4 = i / 4 := Int.tdiv_eq_ediv_of_nonneg h3
  have a2 : i.tmod 4 = i % 4 := Int.tmod_eq_emod_of_nonneg h3
  have a3 : (i / 4).tdiv W = i / 4 / W := Int.tdiv_eq_ediv_of_nonneg (by omega)
  have a4 : (i / 4).tmod W = i / 4 % W := Int.tmod_eq_emod_of_nonneg (by omega)
  have a5 : i / 4 / W ≤ i / 4 := Int.ediv_le_self _ (by omega)
  have a6 : 0 ≤ i / 4 / W := Int.ediv_nonneg (by omega) (by omega)
  repeat' (first | ((with_reducible refine And.intro (Ask.mk ?_) ?_); first | exact trivial | exact fun _ => trivial) | with_reducible refine And.intro ?_ ?_ | ((with_reducible refine Br.litT ?_ ?_); exact (Eq.refl true)) | ((with_reducible refine Br.litF ?_ ?_); exact (Eq.refl false)) | with_reducible refine Br.mk (fun h => ?_) (fun h => ?_) | with_reducible exact True.intro | with_reducible refine rowEq ?_ | with_reducible refine Ub.mk (fun hu => ?_) | ((with_reducible refine Late.mk ?_); exact rfl) | ((fail_if_success (with_reducible first | refine stopA ?_ | refine stopE ?_ | refine stopF ?_ | refine Exists.intro ?_ ?_ | intro _ | refine stopK ?_ | refine stopL ?_)); conv => whnf))
  all_goals (try with_reducible refine Ask.mk ?_)
  all_goals (try first | exact trivial | exact fun _ => trivial)
  all_goals (try dsimp only)
  all_goals (try simp only [a1, a2, a3, a4])
  all_goals (try simp only [inK])
  all_goals omega
def clErr (X Y Q : Int) : Int := if -4096 ≤ X ∧ X ≤ 4096 ∧ -4096 ≤ Y ∧ Y ≤ 4096 ∧ Q ≤ 3 then 0 else 1
abbrev nCellsCheck : FuncId := 159
def kCellsCheck : Kon
 | [.agg [.int .i64 X, .int .i64 Y, .int .u8 Q]] => some (True, .int .i64 (clErr X Y Q))
 | _ => none
def FCellsCheck : Fam := ⟨Int × Int × Int, fun (X, Y, Q) => [.agg [.int .i64 X, .int .i64 Y, .int .u8 Q]], fun _ => True, fun (X, Y, Q) => .int .i64 (clErr X Y Q)⟩
set_option maxRecDepth 100000 in
theorem pCellsCheck : PS 159 kCellsCheck := by
 refine con [] (by simp) FCellsCheck (fun _ _ => none) kCellsCheck ?_ ?_ Go.Proofs.Tryz.func159 (by kernel_rfl) (by kernel_rfl) (by kernel_rfl) ?_
 ·
  intro args pre s h hp
  unfold kCellsCheck at h
  split at h
  ·
   rename_i X Y Q; cases h; exact ⟨(X, Y, Q), by simp [FCellsCheck, le2L, SV.le2, SV.le1, le0L, SV.le0], trivial, rfl⟩
  ·
   cases h
 ·
  intro i; show 1 ≤ _; decide
 ·
  rintro ⟨X, Y, Q⟩ -
  repeat' (first | ((with_reducible refine And.intro (Ask.mk ?_) ?_); first | exact trivial | exact fun _ => trivial) | with_reducible refine And.intro ?_ ?_ | ((with_reducible refine Br.litT ?_ ?_); exact (Eq.refl true)) | ((with_reducible refine Br.litF ?_ ?_); exact (Eq.refl false)) | with_reducible refine Br.mk (fun h => ?_) (fun h => ?_) | with_reducible exact True.intro | with_reducible refine rowEq ?_ | with_reducible refine Ub.mk (fun hu => ?_) | ((with_reducible refine Late.mk ?_); exact rfl) | ((fail_if_success (with_reducible first | refine stopA ?_ | refine stopE ?_ | refine stopF ?_ | refine Exists.intro ?_ ?_ | intro _ | refine stopK ?_ | refine stopL ?_)); conv => whnf))
  all_goals (try with_reducible refine Ask.mk ?_)
  all_goals (try first | exact trivial | exact fun _ => trivial)
  all_goals (try dsimp only)
  ·
   simp [clErr] at h ⊢; omega
  ·
   simp [clErr] at h ⊢; omega
theorem clErr_zero {X Y Q : Int} (h : clErr X Y Q = 0) : -4096 ≤ X ∧ X ≤ 4096 ∧ -4096 ≤ Y ∧ Y ≤ 4096 ∧ Q ≤ 3 := by
 unfold clErr at h
 split at h
 ·
  assumption
 ·
  cases h
def ceErr (W H i : Int) : Int := if shErr W H = 0 then if hasB W H i = true then 0 else 7 else 1
def ceX (W H i : Int) : Int := if ceErr W H i = 0 then i / 4 % W else 0
def ceY (W H i : Int) : Int := if ceErr W H i = 0 then i / 4 / W else 0
def ceQ (W H i : Int) : Int := if ceErr W H i = 0 then i % 4 else 0
theorem shErr_or (W H : Int) : shErr W H = 0 ∨ shErr W H = 1 := by unfold shErr; split <;> simp
def kSheetsCell : Kon
 | [.agg [.int .i64 W, .int .i64 H], .int .i64 i] => some (True, .tup [.agg [.int .i64 (ceX W H i), .int .i64 (ceY W H i), .int .u8 (ceQ W H i)], .int .i64 (ceErr W H i)])
 | _ => none
def FSheetsCell : Fam := ⟨Int × Int × Int, fun (W, H, i) => [.agg [.int .i64 W, .int .i64 H], .int .i64 i], fun _ => True, fun (W, H, i) => .tup [.agg [.int .i64 (ceX W H i), .int .i64 (ceY W H i), .int .u8 (ceQ W H i)], .int .i64 (ceErr W H i)]⟩
set_option maxRecDepth 100000 in
theorem pSheetsCell : PS 166 kSheetsCell := by
 refine con [(11, kSheetsCheck), (215, kHas), (216, kCell)] (by simpa using ⟨pSheetsCheck, pHas, pCell⟩) FSheetsCell (fun _ _ => none) kSheetsCell ?_ ?_ Go.Proofs.Tryz.func166 (by kernel_rfl) (by kernel_rfl) (by kernel_rfl) ?_
 ·
  intro args pre s h hp
  unfold kSheetsCell at h
  split at h
  ·
   rename_i W H i; cases h; exact ⟨(W, H, i), by simp [FSheetsCell, le2L, SV.le2, SV.le1, le0L, SV.le0], trivial, rfl⟩
  ·
   cases h
 ·
  intro i; show 2 ≤ _; decide
 ·
  rintro ⟨W, H, i⟩ -
  repeat' (first | ((with_reducible refine And.intro (Ask.mk ?_) ?_); first | exact trivial | exact fun _ => trivial) | with_reducible refine And.intro ?_ ?_ | ((with_reducible refine Br.litT ?_ ?_); exact (Eq.refl true)) | ((with_reducible refine Br.litF ?_ ?_); exact (Eq.refl false)) | with_reducible refine Br.mk (fun h => ?_) (fun h => ?_) | with_reducible exact True.intro | with_reducible refine rowEq ?_ | with_reducible refine Ub.mk (fun hu => ?_) | ((with_reducible refine Late.mk ?_); exact rfl) | ((fail_if_success (with_reducible first | refine stopA ?_ | refine stopE ?_ | refine stopF ?_ | refine Exists.intro ?_ ?_ | intro _ | refine stopK ?_ | refine stopL ?_)); conv => whnf))
  all_goals (try with_reducible refine Ask.mk ?_)
  all_goals (try first | exact trivial | exact fun _ => trivial)
  all_goals (try dsimp only)
  all_goals (try simp only [ceX, ceY, ceQ, ceErr])
  all_goals (try simp at h)
  all_goals (first | (simp [h]; done) | skip)
  all_goals (try (rename_i h0; simp at h0; simp [h, h0]; done))
  ·
   rw [if_neg h]; exact (shErr_or W H).resolve_left h
  ·
   rename_i h0; simp at h0
   obtain ⟨h1, h2, h3, h4, h5, h6, h7⟩ := shErr_zero h0
   simp [hasB] at h
   omega
def ndx (Q e : Int) : Int := [tb [0, 1, 0, -1] Q.toNat, tb [0, 0, 0, 0] Q.toNat, tb [0, 0, 0, 0] Q.toNat].getD e.toNat 0
def ndy (Q e : Int) : Int := [tb [-1, 0, 1, 0] Q.toNat, tb [0, 0, 0, 0] Q.toNat, tb [0, 0, 0, 0] Q.toNat].getD e.toNat 0
def ndq (Q e : Int) : Int := [tb [2, 3, 0, 1] Q.toNat, tb [1, 0, 3, 2] Q.toNat, tb [3, 2, 1, 0] Q.toNat].getD e.toNat 0
def nbErr (X Y Q e : Int) : Int := if clErr X Y Q = 0 ∧ e ≤ 2 then (if clErr (ndx Q e + X) (ndy Q e + Y) (ndq Q e) = 0 then 0 else 3) else 1
def nbX (X Y Q e : Int) : Int := if nbErr X Y Q e = 0 then ndx Q e + X else 0
def nbY (X Y Q e : Int) : Int := if nbErr X Y Q e = 0 then ndy Q e + Y else 0
def nbQ (X Y Q e : Int) : Int := if nbErr X Y Q e = 0 then ndq Q e else 0
theorem nd_le {Q e : Int} (h1 : 0 ≤ Q) (h2 : Q ≤ 3) (h3 : 0 ≤ e) (h4 : e ≤ 2) : -1 ≤ ndx Q e ∧ ndx Q e ≤ 1 ∧ -1 ≤ ndy Q e ∧ ndy Q e ≤ 1 ∧ 0 ≤ ndq Q e ∧ ndq Q e ≤ 3 := by
 have : ∀ q : Nat, q < 4 → ∀ e : Nat, e < 3 → -1 ≤ ndx q e ∧ ndx q e ≤ 1 ∧ -1 ≤ ndy q e ∧ ndy q e ≤ 1 ∧ 0 ≤ ndq q e ∧ ndq q e ≤ 3 := by decide
 have := this Q.toNat (by omega) e.toNat (by omega)
 rwa [Int.toNat_of_nonneg h1, Int.toNat_of_nonneg h3] at this
theorem clErr_or (X Y Q : Int) : clErr X Y Q = 0 ∨ clErr X Y Q = 1 := by unfold clErr; split <;> simp
abbrev nCellsNeighbour : FuncId := 167
def kCellsNeighbour : Kon
 | [.agg [.int .i64 X, .int .i64 Y, .int .u8 Q], .int .u8 e] => some (0 ≤ Q ∧ 0 ≤ e, .tup [.agg [.int .i64 (nbX X Y Q e), .int .i64 (nbY X Y Q e), .int .u8 (nbQ X Y Q e)], .int .i64 (nbErr X Y Q e)])
 | _ => none
def FCellsNeighbour : Fam := ⟨Int × Int × Int × Int, fun (X, Y, Q, e) => [.agg [.int .i64 X, .int .i64 Y, .int .u8 Q], .int .u8 e], fun (X, Y, Q, e) => 0 ≤ Q ∧ 0 ≤ e,
 fun (X, Y, Q, e) => .tup [.agg [.int .i64 (nbX X Y Q e), .int .i64 (nbY X Y Q e), .int .u8 (nbQ X Y Q e)], .int .i64 (nbErr X Y Q e)]⟩
set_option maxRecDepth 100000 in
theorem pCellsNeighbour : PS 167 kCellsNeighbour := by
 refine con [(159, kCellsCheck)] (by simpa using pCellsCheck) FCellsNeighbour (fun _ _ => none) kCellsNeighbour ?_ ?_ Go.Proofs.Tryz.func167 (by kernel_rfl) (by kernel_rfl) (by kernel_rfl) ?_
 ·
  intro args pre s h hp
  unfold kCellsNeighbour at h
  split at h
  ·
   rename_i X Y Q e; cases h; exact ⟨(X, Y, Q, e), by simp [FCellsNeighbour, le2L, SV.le2, SV.le1, le0L, SV.le0], hp, rfl⟩
  ·
   cases h
 ·
  intro i; show 2 ≤ _; decide
 ·
  rintro ⟨X, Y, Q, e⟩ ⟨hQ, he⟩
  repeat' (first | ((with_reducible refine And.intro (Ask.mk ?_) ?_); first | exact trivial | exact fun _ => trivial) | with_reducible refine And.intro ?_ ?_ | ((with_reducible refine Br.litT ?_ ?_); exact (Eq.refl true)) | ((with_reducible refine Br.litF ?_ ?_); exact (Eq.refl false)) | with_reducible refine Br.mk (fun h => ?_) (fun h => ?_) | with_reducible exact True.intro | with_reducible refine rowEq ?_ | with_reducible refine Ub.mk (fun hu => ?_) | ((with_reducible refine Late.mk ?_); exact rfl) | ((fail_if_success (with_reducible first | refine stopA ?_ | refine stopE ?_ | refine stopF ?_ | refine Exists.intro ?_ ?_ | intro _ | refine stopK ?_ | refine stopL ?_)); conv => whnf))
  all_goals (try with_reducible refine Ask.mk ?_)
  all_goals (try first | exact trivial | exact fun _ => trivial)
  all_goals (try dsimp only)
  all_goals (try simp only [nbX, nbY, nbQ])
  all_goals (try (have e0 : nbErr X Y Q e = 1 := by simp [nbErr]; simp at h; omega); simp [e0]; done)
  ·
   simp at h; have := clErr_zero h.1; omega
  ·
   simp at h; omega
  all_goals (try (change inK .i64 (ndx Q e + X); simp at h; have := clErr_zero h.1; have n := nd_le hQ (by omega) he (by omega); simp only [inK]; omega))
  all_goals (try (change inK .i64 (ndy Q e + Y); simp at h; have := clErr_zero h.1; have n := nd_le hQ (by omega) he (by omega); simp only [inK]; omega))
  all_goals (rename_i h0; simp at h0)
  all_goals (change (!decide (clErr (ndx Q e + X) (ndy Q e + Y) (ndq Q e) = 0)) = _ at h; simp at h)
  all_goals (try (have e0 : nbErr X Y Q e = 3 := by simp [nbErr, h0, h]); simp [e0]; done)
  all_goals (have e0 : nbErr X Y Q e = 0 := by simp [nbErr, h0, h])
  all_goals (simp only [e0, if_true])
  ·
   rfl
  ·
   rfl
  ·
   rfl
def idErr (W H X Y Q : Int) : Int := if shErr W H = 0 then (if clErr X Y Q = 0 ∧ 0 ≤ X ∧ X < W ∧ 0 ≤ Y ∧ Y < H then 0 else 7) else 1
def idVal (W H X Y Q : Int) : Int := if idErr W H X Y Q = 0 then 4 * (Y * W + X) + Q else 0
def kId : Kon
 | [.agg [.int .i64 W, .int .i64 H], .agg [.int .i64 X, .int .i64 Y, .int .u8 Q]] => some (0 ≤ Q, .tup [.int .i64 (idVal W H X Y Q), .int .i64 (idErr W H X Y Q)])
 | _ => none
def FId : Fam := ⟨Int × Int × Int × Int × Int, fun (W, H, X, Y, Q) => [.agg [.int .i64 W, .int .i64 H], .agg [.int .i64 X, .int .i64 Y, .int .u8 Q]], fun (W, H, X, Y, Q) => 0 ≤ Q,
 fun (W, H, X, Y, Q) => .tup [.int .i64 (idVal W H X Y Q), .int .i64 (idErr W H X Y Q)]⟩
theorem id_le {W H X Y : Int} (h : shErr W H = 0) (h1 : 0 ≤ X) (h2 : X < W) (h3 : 0 ≤ Y) (h4 : Y < H) : 0 ≤ Y * W ∧ Y * W + X < W * H ∧ W * H ≤ 256 := by
 obtain ⟨a1, a2, a3, a4, a5, a6, a7⟩ := shErr_zero h
 have b : Y * W ≤ (H - 1) * W := Int.mul_le_mul_of_nonneg_right (by omega) (by omega)
 have c : (H - 1) * W = W * H - W := by rw [Int.sub_mul, Int.one_mul, Int.mul_comm]
 have d : 0 ≤ Y * W := Int.mul_nonneg h3 (by omega)
 omega
set_option maxRecDepth 100000 in
theorem pId : PS 168 kId := by
 refine con [(11, kSheetsCheck), (159, kCellsCheck)] (by simpa using ⟨pSheetsCheck, pCellsCheck⟩) FId (fun _ _ => none) kId ?_ ?_ Go.Proofs.Tryz.func168 (by kernel_rfl) (by kernel_rfl) (by kernel_rfl) ?_
 ·
  intro args pre s h hp
  unfold kId at h
  split at h
  ·
   rename_i W H X Y Q; cases h; exact ⟨(W, H, X, Y, Q), by simp [FId, le2L, SV.le2, SV.le1, le0L, SV.le0], hp, rfl⟩
  ·
   cases h
 ·
  intro i; show 2 ≤ _; decide
 ·
  rintro ⟨W, H, X, Y, Q⟩ hQ
  replace hQ : 0 ≤ Q := hQ
  repeat' (first | ((with_reducible refine And.intro (Ask.mk ?_) ?_); first | exact trivial | exact fun _ => trivial) | with_reducible refine And.intro ?_ ?_ | ((with_reducible refine Br.litT ?_ ?_); exact (Eq.refl true)) | ((with_reducible refine Br.litF ?_ ?_); exact (Eq.refl false)) | with_reducible refine Br.mk (fun h => ?_) (fun h => ?_) | with_reducible exact True.intro | with_reducible refine rowEq ?_ | with_reducible refine Ub.mk (fun hu => ?_) | ((with_reducible refine Late.mk ?_); exact rfl) | ((fail_if_success (with_reducible first | refine stopA ?_ | refine stopE ?_ | refine stopF ?_ | refine Exists.intro ?_ ?_ | intro _ | refine stopK ?_ | refine stopL ?_)); conv => whnf))
  all_goals (try with_reducible refine Ask.mk ?_)
  all_goals (try first | exact trivial | exact fun _ => trivial)
  all_goals (try dsimp only)
  all_goals (try (have e0 : idErr W H X Y Q = 1 := by (simp at h; simp [idErr, h])); rw [idVal, e0]; rfl)
  ·
   simp at h; rw [idErr, if_neg h]; exact (shErr_or W H).resolve_left h
  all_goals (try ((have e0 : idErr W H X Y Q = 7 := by (rename_i h0; simp at h0; simp at h; rw [idErr, if_pos h0, if_neg]; omega)); first | exact e0.symm | (rw [idVal, e0]; rfl)))
  all_goals (rename_i h0; simp at h0; simp at h)
  all_goals (have b := id_le (X := X) (Y := Y) h0 (by omega) (by omega) (by omega) (by omega); have c := clErr_zero h.1.1.1.1)
  all_goals (try (simp only [inK]; omega))
  all_goals (have e0 : idErr W H X Y Q = 0 := by rw [idErr, if_pos h0, if_pos]; omega)
  ·
   rw [idVal, e0]; rfl
  ·
   exact e0.symm
def neErr (W H i e : Int) : Int := if ceErr W H i = 0 then (if nbErr (ceX W H i) (ceY W H i) (ceQ W H i) e = 0 then idErr W H (nbX (ceX W H i) (ceY W H i) (ceQ W H i) e) (nbY (ceX W H i) (ceY W H i) (ceQ W H i) e) (nbQ (ceX W H i) (ceY W H i) (ceQ W H i) e) else 1) else ceErr W H i
def neVal (W H i e : Int) : Int := if ceErr W H i = 0 then (if nbErr (ceX W H i) (ceY W H i) (ceQ W H i) e = 0 then idVal W H (nbX (ceX W H i) (ceY W H i) (ceQ W H i) e) (nbY (ceX W H i) (ceY W H i) (ceQ W H i) e) (nbQ (ceX W H i) (ceY W H i) (ceQ W H i) e) else 0) else 0
theorem ceQ_le (W H i : Int) : 0 ≤ ceQ W H i ∧ ceQ W H i ≤ 3 := by
 unfold ceQ; split <;> omega
theorem nbQ_le {X Y Q e : Int} (h1 : 0 ≤ Q) (h3 : 0 ≤ e) : 0 ≤ nbQ X Y Q e ∧ nbQ X Y Q e ≤ 3 := by
 unfold nbQ
 split
 ·
  rename_i h
  unfold nbErr at h
  split at h
  ·
   rename_i hc
   have := clErr_zero hc.1
   have := nd_le h1 (by omega) h3 hc.2
   omega
  ·
   cases h
 ·
  omega
def kNeighbour : Kon
 | [.agg [.int .i64 W, .int .i64 H], .int .i64 i, .int .u8 e] => some (0 ≤ e, .tup [.int .i64 (neVal W H i e), .int .i64 (neErr W H i e)])
 | _ => none
def FNeighbour : Fam := ⟨Int × Int × Int × Int, fun (W, H, i, e) => [.agg [.int .i64 W, .int .i64 H], .int .i64 i, .int .u8 e], fun (W, H, i, e) => 0 ≤ e,
 fun (W, H, i, e) => .tup [.int .i64 (neVal W H i e), .int .i64 (neErr W H i e)]⟩
set_option maxRecDepth 100000 in
theorem pNeighbour : PS 87 kNeighbour := by
 refine con [(166, kSheetsCell), (167, kCellsNeighbour), (168, kId)] (by simpa using ⟨pSheetsCell, pCellsNeighbour, pId⟩) FNeighbour (fun _ _ => none) kNeighbour ?_ ?_ Go.Proofs.Tryz.func87 (by kernel_rfl) (by kernel_rfl) (by kernel_rfl) ?_
 ·
  intro args pre s h hp
  unfold kNeighbour at h
  split at h
  ·
   rename_i W H i e; cases h; exact ⟨(W, H, i, e), by simp [FNeighbour, le2L, SV.le2, SV.le1, le0L, SV.le0], hp, rfl⟩
  ·
   cases h
 ·
  intro i; show 3 ≤ _; decide
 ·
  rintro ⟨W, H, i, e⟩ he
  replace he : 0 ≤ e := he
  repeat' (first | ((with_reducible refine And.intro (Ask.mk ?_) ?_); first | exact trivial | exact fun _ => trivial) | with_reducible refine And.intro ?_ ?_ | ((with_reducible refine Br.litT ?_ ?_); exact (Eq.refl true)) | ((with_reducible refine Br.litF ?_ ?_); exact (Eq.refl false)) | with_reducible refine Br.mk (fun h => ?_) (fun h => ?_) | with_reducible exact True.intro | with_reducible refine rowEq ?_ | with_reducible refine Ub.mk (fun hu => ?_) | ((with_reducible refine Late.mk ?_); exact rfl) | ((fail_if_success (with_reducible first | refine stopA ?_ | refine stopE ?_ | refine stopF ?_ | refine Exists.intro ?_ ?_ | intro _ | refine stopK ?_ | refine stopL ?_)); conv => whnf))
  all_goals (try with_reducible refine Ask.mk ?_)
  all_goals (try first | exact trivial | exact fun _ => trivial)
  all_goals (try dsimp only)
  all_goals (try exact he)
  all_goals (try exact (ceQ_le W H i).1)
  all_goals (try exact ⟨(ceQ_le W H i).1, he⟩)
  all_goals (try exact (nbQ_le (ceQ_le W H i).1 he).1)
  all_goals (simp at h; (try rename_i h0; simp at h0); simp [neErr, neVal, *])
abbrev nMiddle : FuncId := 272
def kMiddle : Kon
 | [.agg [.int .i64 X, .int .i64 Y, .int .u8 Q]] => some (-5000 ≤ X ∧ X ≤ 5000 ∧ -5000 ≤ Y ∧ Y ≤ 5000, .agg [.int .i64 (2 * X + 1), .int .i64 (2 * Y + 1)])
 | _ => none
def FMiddle : Fam := ⟨Int × Int × Int, fun (X, Y, Q) => [.agg [.int .i64 X, .int .i64 Y, .int .u8 Q]], fun (X, Y, Q) => -5000 ≤ X ∧ X ≤ 5000 ∧ -5000 ≤ Y ∧ Y ≤ 5000, fun (X, Y, Q) => .agg [.int .i64 (2 * X + 1), .int .i64 (2 * Y + 1)]⟩
set_option maxHeartbeats 4000000 in
set_option maxRecDepth 100000 in
theorem pMiddle : PS nMiddle kMiddle := by
 refine con [] (by simp) FMiddle (fun _ _ => none) kMiddle ?_ ?_ Go.Proofs.Tryz.func272 (by kernel_rfl) (by kernel_rfl) (by kernel_rfl) ?_
 ·
  intro args pre s h hp
  unfold kMiddle at h
  split at h
  ·
   rename_i X Y Q; cases h; exact ⟨(X, Y, Q), by simp [FMiddle, le2L, SV.le2, SV.le1, le0L, SV.le0], hp, rfl⟩
  ·
   cases h
 ·
  intro i; show 1 ≤ _; decide
 ·
  rintro ⟨X, Y, Q⟩ hp
  replace hp : -5000 ≤ X ∧ X ≤ 5000 ∧ -5000 ≤ Y ∧ Y ≤ 5000 := hp
  repeat' (first | ((with_reducible refine And.intro (Ask.mk ?_) ?_); first | exact trivial | exact fun _ => trivial) | with_reducible refine And.intro ?_ ?_ | ((with_reducible refine Br.litT ?_ ?_); exact (Eq.refl true)) | ((with_reducible refine Br.litF ?_ ?_); exact (Eq.refl false)) | with_reducible refine Br.mk (fun h => ?_) (fun h => ?_) | with_reducible exact True.intro | with_reducible refine rowEq ?_ | with_reducible refine Ub.mk (fun hu => ?_) | ((with_reducible refine Late.mk ?_); exact rfl) | ((fail_if_success (with_reducible first | refine stopA ?_ | refine stopE ?_ | refine stopF ?_ | refine Exists.intro ?_ ?_ | intro _ | refine stopK ?_ | refine stopL ?_)); conv => whnf))
  all_goals (try with_reducible refine Ask.mk ?_)
  all_goals (try first | exact trivial | exact fun _ => trivial)
  all_goals (try dsimp only)
  all_goals (first | rfl | (simp only [inK]; omega))
def o1 (Q : Int) : Int := tb [0, 2, 2, 0] Q.toNat
def o2 (Q : Int) : Int := tb [2, 2, 0, 0] Q.toNat
def o3 (Q : Int) : Int := tb [0, 0, 2, 2] Q.toNat
theorem o_le {Q : Int} (h0 : 0 ≤ Q) (h1 : Q ≤ 3) : (0 ≤ o1 Q ∧ o1 Q ≤ 2) ∧ (0 ≤ o2 Q ∧ o2 Q ≤ 2) ∧ 0 ≤ o3 Q ∧ o3 Q ≤ 2 := by
 have : ∀ q : Nat, q < 4 → (0 ≤ o1 q ∧ o1 q ≤ 2) ∧ (0 ≤ o2 q ∧ o2 q ≤ 2) ∧ 0 ≤ o3 q ∧ o3 q ≤ 2 := by decide
 have := this Q.toNat (by omega)
 rwa [Int.toNat_of_nonneg h0] at this
def ICorn : Nat → Option Inv
 | 6 => some (.unroll 4)
 | _ => none
abbrev nCorners : FuncId := 191
def kCorners : Kon
 | [.agg [.int .i64 X, .int .i64 Y, .int .u8 Q]] => some (0 ≤ Q, .tup [.agg [.int .i64 (keep (clErr X Y Q) (1 + 2 * X)), .int .i64 (keep (clErr X Y Q) (1 + 2 * Y)), .int .i64 (keep (clErr X Y Q) (o1 Q + 2 * X)), .int .i64 (keep (clErr X Y Q) (o1 Q + 2 * Y)), .int .i64 (keep (clErr X Y Q) (o2 Q + 2 * X)), .int .i64 (keep (clErr X Y Q) (o3 Q + 2 * Y))], .int .i64 (clErr X Y Q)])
 | _ => none
def FCorners : Fam := ⟨Int × Int × Int, fun (X, Y, Q) => [.agg [.int .i64 X, .int .i64 Y, .int .u8 Q]], fun (X, Y, Q) => 0 ≤ Q, fun (X, Y, Q) => .tup [.agg [.int .i64 (keep (clErr X Y Q) (1 + 2 * X)), .int .i64 (keep (clErr X Y Q) (1 + 2 * Y)), .int .i64 (keep (clErr X Y Q) (o1 Q + 2 * X)), .int .i64 (keep (clErr X Y Q) (o1 Q + 2 * Y)), .int .i64 (keep (clErr X Y Q) (o2 Q + 2 * X)), .int .i64 (keep (clErr X Y Q) (o3 Q + 2 * Y))], .int .i64 (clErr X Y Q)]⟩
set_option maxHeartbeats 4000000 in
set_option maxRecDepth 100000 in
theorem pCorners : PS nCorners kCorners := by
 refine con [(nCellsCheck, kCellsCheck)] (by simpa using pCellsCheck) FCorners (fun _ => ICorn) kCorners ?_ ?_ Go.Proofs.Tryz.func191 (by kernel_rfl) (by kernel_rfl) (by kernel_rfl) ?_
 ·
  intro args pre s h hp
  unfold kCorners at h
  split at h
  ·
   rename_i X Y Q; cases h; exact ⟨(X, Y, Q), by simp [FCorners, le2L, SV.le2, SV.le1, le0L, SV.le0], hp, rfl⟩
  ·
   cases h
 ·
  intro i; show 1 ≤ _; decide
 ·
  rintro ⟨X, Y, Q⟩ hp
  replace hp : 0 ≤ Q := hp
  repeat' (first | ((with_reducible refine And.intro (Ask.mk ?_) ?_); first | exact trivial | exact fun _ => trivial) | with_reducible refine And.intro ?_ ?_ | ((with_reducible refine Br.litT ?_ ?_); exact (Eq.refl true)) | ((with_reducible refine Br.litF ?_ ?_); exact (Eq.refl false)) | with_reducible refine Br.mk (fun h => ?_) (fun h => ?_) | with_reducible exact True.intro | with_reducible refine rowEq ?_ | with_reducible refine Ub.mk (fun hu => ?_) | ((with_reducible refine Late.mk ?_); exact rfl) | ((fail_if_success (with_reducible first | refine stopA ?_ | refine stopE ?_ | refine stopF ?_ | refine Exists.intro ?_ ?_ | intro _ | refine stopK ?_ | refine stopL ?_)); conv => whnf))
  all_goals (try with_reducible refine Ask.mk ?_)
  all_goals (try first | exact trivial | exact fun _ => trivial)
  all_goals (try dsimp only)
  all_goals (have c0 := clErr_or X Y Q; have c1 := @clErr_zero X Y Q; have o := @o_le Q hp)
  all_goals (try simp only [inK])
  all_goals (first
   | (intros; decide)
   | (change keep _ _ = keep _ _; rfl)
   | (change _ = keep (clErr X Y Q) (o1 Q + 2 * X); simp [keep] at h ⊢; rw [if_pos h]; rfl)
   | (change _ = keep (clErr X Y Q) (o1 Q + 2 * Y); simp [keep] at h ⊢; rw [if_pos h]; rfl)
   | (change _ = keep (clErr X Y Q) (o2 Q + 2 * X); simp [keep] at h ⊢; rw [if_pos h]; rfl)
   | (change _ = keep (clErr X Y Q) (o3 Q + 2 * Y); simp [keep] at h ⊢; rw [if_pos h]; rfl)
   | (simp only [o1, o2, o3] at o; grind [keep]))
def lqK (Q : Int) : Int := tb [2, 1, 2, 1] Q.toNat
def lqB (Q : Int) : Int := tb [0, 1, 1, 0] Q.toNat
theorem lq_le {Q : Int} (h0 : 0 ≤ Q) (h1 : Q ≤ 3) : (lqK Q = 1 ∨ lqK Q = 2) ∧ 0 ≤ lqB Q ∧ lqB Q ≤ 1 := by
 have : ∀ q : Nat, q < 4 → (lqK q = 1 ∨ lqK q = 2) ∧ 0 ≤ lqB q ∧ lqB q ≤ 1 := by decide
 have := this Q.toNat (by omega)
 rwa [Int.toNat_of_nonneg h0] at this
def ciK (Q e : Int) : Int := if e = 1 then 3 else if e = 2 then 4 else lqK Q
def ciC (X Y Q e : Int) : Int := if e = 1 then X + Y + 1 else if e = 2 then Y - X else if lqK Q = 2 then Y + lqB Q else X + lqB Q
def ciErr (X Y Q e : Int) : Int := if clErr X Y Q = 0 ∧ e ≤ 2 then (if lnErr (ciK Q e) (ciC X Y Q e) = 0 then 0 else 3) else 1
abbrev nCellLine : FuncId := 107
def kCellLine : Kon
 | [.agg [.int .i64 X, .int .i64 Y, .int .u8 Q], .int .u8 e] => some (0 ≤ Q ∧ 0 ≤ e, .tup [.agg [.int .u8 (keep (ciErr X Y Q e) (ciK Q e)), .int .i64 (keep (ciErr X Y Q e) (ciC X Y Q e))], .int .i64 (ciErr X Y Q e)])
 | _ => none
def FCellLine : Fam := ⟨Int × Int × Int × Int, fun (X, Y, Q, e) => [.agg [.int .i64 X, .int .i64 Y, .int .u8 Q], .int .u8 e], fun (X, Y, Q, e) => 0 ≤ Q ∧ 0 ≤ e, fun (X, Y, Q, e) => .tup [.agg [.int .u8 (keep (ciErr X Y Q e) (ciK Q e)), .int .i64 (keep (ciErr X Y Q e) (ciC X Y Q e))], .int .i64 (ciErr X Y Q e)]⟩
set_option maxHeartbeats 4000000 in
set_option maxRecDepth 100000 in
theorem pCellLine : PS nCellLine kCellLine := by
 refine con [(nCellsCheck, kCellsCheck), (nLnCheck, kLnCheck)] (by simpa using ⟨pCellsCheck, pLnCheck⟩) FCellLine (fun _ _ => none) kCellLine ?_ ?_ Go.Proofs.Tryz.func107 (by kernel_rfl) (by kernel_rfl) (by kernel_rfl) ?_
 ·
  intro args pre s h hp
  unfold kCellLine at h
  split at h
  ·
   rename_i X Y Q e; cases h; exact ⟨(X, Y, Q, e), by simp [FCellLine, le2L, SV.le2, SV.le1, le0L, SV.le0], hp, rfl⟩
  ·
   cases h
 ·
  intro i; show 2 ≤ _; decide
 ·
  rintro ⟨X, Y, Q, e⟩ hp
  replace hp : 0 ≤ Q ∧ 0 ≤ e := hp
  repeat' (first | ((with_reducible refine And.intro (Ask.mk ?_) ?_); first | exact trivial | exact fun _ => trivial) | with_reducible refine And.intro ?_ ?_ | ((with_reducible refine Br.litT ?_ ?_); exact (Eq.refl true)) | ((with_reducible refine Br.litF ?_ ?_); exact (Eq.refl false)) | with_reducible refine Br.mk (fun h => ?_) (fun h => ?_) | with_reducible exact True.intro | with_reducible refine rowEq ?_ | with_reducible refine Ub.mk (fun hu => ?_) | ((with_reducible refine Late.mk ?_); exact rfl) | ((fail_if_success (with_reducible first | refine stopA ?_ | refine stopE ?_ | refine stopF ?_ | refine Exists.intro ?_ ?_ | intro _ | refine stopK ?_ | refine stopL ?_)); conv => whnf))
  all_goals (try with_reducible refine Ask.mk ?_)
  all_goals (try first | exact trivial | exact fun _ => trivial)
  all_goals (try dsimp only)
  all_goals (have c1 := @clErr_zero X Y Q; have o := @lq_le Q hp.1)
  all_goals (try simp only [inK])
  all_goals (simp only [lqK, lqB] at o)
  all_goals grind [ciErr, ciK, ciC, keep, lqK, lqB]
def sX (Q : Int) : Int := tb [0, 1, 0, -1] Q.toNat
def sY (Q : Int) : Int := tb [-1, 0, 1, 0] Q.toNat
def dX (t Q : Int) : Int := poX t 0 0 (sX Q) (sY Q)
def dY (t Q : Int) : Int := poY t 0 0 (sX Q) (sY Q)
def mvHit (t Q : Int) (i : Nat) : Bool := and (decide (tb [0, 1, 0, -1] i = dX t Q)) (and (decide (tb [-1, 0, 1, 0] i = dY t Q)) true)
def mvQn (t Q : Int) : Nat → Int
 | 0 => 0
 | i + 1 => bif mvHit t Q i then i else mvQn t Q i
def mvQ (t Q : Int) : Int := mvQn t Q 4
def half (p : Int) : Int := (p - p % 2).tdiv 2
def mvX (t x y X Y : Int) : Int := half (poX t x y (2 * X + 1) (2 * Y + 1))
def mvY (t x y X Y : Int) : Int := half (poY t x y (2 * X + 1) (2 * Y + 1))
theorem po_le {t x y a b : Int} (ht : 0 ≤ t) (h : mvErr t x y = 0) (a1 : -9000 ≤ a) (a2 : a ≤ 9000) (b1 : -9000 ≤ b) (b2 : b ≤ 9000) : -60000 ≤ poX t x y a b ∧ poX t x y a b ≤ 60000 ∧ -60000 ≤ poY t x y a b ∧ poY t x y a b ≤ 60000 := by
 have m := mvErr_zero h
 have r := turn_le (t := t) (x := a) (y := b) (B := 9000) ht m.1 (by omega) (by omega) (by omega) (by omega)
 unfold poX poY keep
 split <;> omega
theorem half_le {p : Int} (h1 : -60000 ≤ p) (h2 : p ≤ 60000) : -60000 ≤ half p ∧ half p ≤ 60000 := by
 unfold half
 have := Int.tdiv_eq_ediv (a := p - p % 2) (b := 2)
 rw [this]
 split <;> omega
def quartersAgg : SV := .agg (quartersRow 0 ++ quartersRow 1 ++ quartersRow 2 ++ quartersRow 3)
def IMoved : Int × Int × Int × Int × Int × Int → Nat → Option Inv
 | (t, x, y, X, Y, Q), 7 => some { β := Nat, ok := fun i => i ≤ 4, st := fun i => ⟨[⟨47, none, .int .i64 i⟩, ⟨46, none, quartersAgg⟩, ⟨7, none, .own 5 0⟩, ⟨6, none, .own 4 0⟩, ⟨4, none, .own 2 0⟩], [.cells 28 [.int .u8 t, .int .i64 0, .int .i64 0], .cells 59 [.int .i64 X, .int .i64 Y, .int .u8 Q], .cells 59 [.int .i64 0, .int .i64 0, .int .u8 0], .cells 300 [.int .i64 (poX t x y (2 * X + 1) (2 * Y + 1)), .int .i64 (poY t x y (2 * X + 1) (2 * Y + 1))], .cells 300 [.int .i64 (dX t Q), .int .i64 (dY t Q)], .cells 59 [.int .i64 (mvX t x y X Y), .int .i64 (mvY t x y X Y), .int .u8 (mvQn t Q i)]]⟩, μ := fun i => 4 - i }
 | _, _ => none
abbrev nMoved : FuncId := 213
def kMoved : Kon
 | [.agg [.int .u8 t, .int .i64 x, .int .i64 y], .agg [.int .i64 X, .int .i64 Y, .int .u8 Q]] => some (mvErr t x y = 0 ∧ clErr X Y Q = 0 ∧ 0 ≤ t ∧ 0 ≤ Q, .agg [.int .i64 (mvX t x y X Y), .int .i64 (mvY t x y X Y), .int .u8 (mvQ t Q)])
 | _ => none
def FMoved : Fam := ⟨Int × Int × Int × Int × Int × Int, fun (t, x, y, X, Y, Q) => [.agg [.int .u8 t, .int .i64 x, .int .i64 y], .agg [.int .i64 X, .int .i64 Y, .int .u8 Q]], fun (t, x, y, X, Y, Q) => mvErr t x y = 0 ∧ clErr X Y Q = 0 ∧ 0 ≤ t ∧ 0 ≤ Q, fun (t, x, y, X, Y, Q) => .agg [.int .i64 (mvX t x y X Y), .int .i64 (mvY t x y X Y), .int .u8 (mvQ t Q)]⟩
set_option maxHeartbeats 4000000 in
set_option maxRecDepth 100000 in
theorem pMoved : PS nMoved kMoved := by
 refine con [(nMiddle, kMiddle), (nMvPoint, kMvPoint)] (by simpa using ⟨pMiddle, pMvPoint⟩) FMoved IMoved kMoved ?_ ?_ Go.Proofs.Tryz.func213 (by kernel_rfl) (by kernel_rfl) (by kernel_rfl) ?_
 ·
  intro args pre s h hp
  unfold kMoved at h
  split at h
  ·
   rename_i t x y X Y Q; cases h; exact ⟨(t, x, y, X, Y, Q), by simp [FMoved, le2L, SV.le2, SV.le1, le0L, SV.le0], hp, rfl⟩
  ·
   cases h
 ·
  intro i; show 2 ≤ _; decide
 ·
  rintro ⟨t, x, y, X, Y, Q⟩ hp
  replace hp : mvErr t x y = 0 ∧ clErr X Y Q = 0 ∧ 0 ≤ t ∧ 0 ≤ Q := hp
  repeat' (first | ((with_reducible refine And.intro (Ask.mk ?_) ?_); first | exact trivial | exact fun _ => trivial) | with_reducible refine And.intro ?_ ?_ | ((with_reducible refine Br.litT ?_ ?_); exact (Eq.refl true)) | ((with_reducible refine Br.litF ?_ ?_); exact (Eq.refl false)) | with_reducible refine Br.mk (fun h => ?_) (fun h => ?_) | with_reducible exact True.intro | with_reducible refine rowEq ?_ | with_reducible refine Ub.mk (fun hu => ?_) | ((with_reducible refine Late.mk ?_); exact rfl) | ((fail_if_success (with_reducible first | refine stopA ?_ | refine stopE ?_ | refine stopF ?_ | refine Exists.intro ?_ ?_ | intro _ | refine stopK ?_ | refine stopL ?_)); conv => whnf))
  all_goals (try with_reducible refine Ask.mk ?_)
  all_goals (try first | exact trivial | exact fun _ => trivial)
  all_goals (try dsimp only)
  all_goals (have m := mvErr_zero hp.1; have c := clErr_zero hp.2.1; have r := po_le hp.2.2.1 hp.1 (a := 2 * X + 1) (b := 2 * Y + 1) (by omega) (by omega) (by omega) (by omega))
  all_goals (first
   | omega
   | (simp only [inK]; omega)
   | (have q := half_le r.1 r.2.1; simp only [half] at q; simp only [inK]; omega)
   | (have q := half_le r.2.2.1 r.2.2.2; simp only [half] at q; simp only [inK]; omega)
   | refine ⟨(0 : Nat), by decide, ?_, ?_⟩)
  ·
   repeat' (first | ((with_reducible refine And.intro (Ask.mk ?_) ?_); first | exact trivial | exact fun _ => trivial) | with_reducible refine And.intro ?_ ?_ | ((with_reducible refine Br.litT ?_ ?_); exact (Eq.refl true)) | ((with_reducible refine Br.litF ?_ ?_); exact (Eq.refl false)) | with_reducible refine Br.mk (fun h => ?_) (fun h => ?_) | with_reducible exact True.intro | with_reducible refine rowEq ?_ | with_reducible refine Ub.mk (fun hu => ?_) | ((with_reducible refine Late.mk ?_); exact rfl) | ((fail_if_success (with_reducible first | refine stopA ?_ | refine stopE ?_ | refine stopF ?_ | refine Exists.intro ?_ ?_ | intro _ | refine stopK ?_ | refine stopL ?_)); conv => whnf))
   all_goals (try with_reducible refine Ask.mk ?_)
   all_goals (try first | exact trivial | exact fun _ => trivial)
   all_goals (try dsimp only)
   all_goals first | rfl | exact fun _ _ => rfl | skip
  ·
   intro i hi
   replace hi : i ≤ 4 := hi
   have : i = 0 ∨ i = 1 ∨ i = 2 ∨ i = 3 ∨ i = 4 := by omega
   rcases this with rfl | rfl | rfl | rfl | rfl
   repeat' (first | ((with_reducible refine And.intro (Ask.mk ?_) ?_); first | exact trivial | exact fun _ => trivial) | with_reducible refine And.intro ?_ ?_ | ((with_reducible refine Br.litT ?_ ?_); exact (Eq.refl true)) | ((with_reducible refine Br.litF ?_ ?_); exact (Eq.refl false)) | with_reducible refine Br.mk (fun h => ?_) (fun h => ?_) | with_reducible exact True.intro | with_reducible refine rowEq ?_ | with_reducible refine Ub.mk (fun hu => ?_) | ((with_reducible refine Late.mk ?_); exact rfl) | ((fail_if_success (with_reducible first | refine stopA ?_ | refine stopE ?_ | refine stopF ?_ | refine Exists.intro ?_ ?_ | intro _ | refine stopK ?_ | refine stopL ?_)); conv => whnf))
   all_goals (try with_reducible refine Ask.mk ?_)
   all_goals (try first | exact trivial | exact fun _ => trivial)
   all_goals (try dsimp only)
   all_goals (first
    | decide
    | rfl
    | (simp only [inK]; omega)
    | (refine ⟨(1 : Nat), (by decide), (by decide), ?_⟩; (first | (have h : mvHit t Q 0 = true := h) | (have h : mvHit t Q 0 = false := h)))
    | (refine ⟨(2 : Nat), (by decide), (by decide), ?_⟩; (first | (have h : mvHit t Q 1 = true := h) | (have h : mvHit t Q 1 = false := h)))
    | (refine ⟨(3 : Nat), (by decide), (by decide), ?_⟩; (first | (have h : mvHit t Q 2 = true := h) | (have h : mvHit t Q 2 = false := h)))
    | (refine ⟨(4 : Nat), (by decide), (by decide), ?_⟩; (first | (have h : mvHit t Q 3 = true := h) | (have h : mvHit t Q 3 = false := h))))
   repeat' (first | ((with_reducible refine And.intro (Ask.mk ?_) ?_); first | exact trivial | exact fun _ => trivial) | with_reducible refine And.intro ?_ ?_ | ((with_reducible refine Br.litT ?_ ?_); exact (Eq.refl true)) | ((with_reducible refine Br.litF ?_ ?_); exact (Eq.refl false)) | with_reducible refine Br.mk (fun h => ?_) (fun h => ?_) | with_reducible exact True.intro | with_reducible refine rowEq ?_ | with_reducible refine Ub.mk (fun hu => ?_) | ((with_reducible refine Late.mk ?_); exact rfl) | ((fail_if_success (with_reducible first | refine stopA ?_ | refine stopE ?_ | refine stopF ?_ | refine Exists.intro ?_ ?_ | intro _ | refine stopK ?_ | refine stopL ?_)); conv => whnf))
   all_goals (try with_reducible refine Ask.mk ?_)
   all_goals (try first | exact trivial | exact fun _ => trivial)
   all_goals (try dsimp only)
   all_goals first | rfl | exact fun _ _ => rfl | omega | (simp only [mvQn, h, cond_true, cond_false]; done) | (simp only [mvQn]; rw [h]; rfl) | trace_state
end Go.Proofs.YteodgliliglipaaGreatDoor.V
