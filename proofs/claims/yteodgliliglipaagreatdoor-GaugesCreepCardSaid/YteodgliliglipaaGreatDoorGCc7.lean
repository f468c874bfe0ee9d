/-
  Parts of the proof: Dc1 Dc2 Dc3 Dc4 A1 A2 A3 P1 P2 A4 P4 A5 A6 P3. Conditions: none.
-/
import Derived.Test.YteodgliliglipaaGreatDoorGCc2
import Derived.Test.YteodgliliglipaaGreatDoorGCc6
import Derived.Test.YteodgliliglipaaGreatDoorChecked
namespace Go.Proofs.YteodgliliglipaaGreatDoor.V.I
open Go
noncomputable section
set_option maxRecDepth 100000
noncomputable def xi10 := xiM 10 Go.Proofs.Tryz.f10 64491684863
theorem xi10_ok : TabOK Go.Proofs.Tryz.prog [xi10] := tabOK1 Go.Proofs.Tryz.func10 (by kernel_rfl) (by kernel_rfl) rfl rfl
noncomputable def cf10 : FnC := (.mk 64491684863 52 (.many [(.cell 7 true q0), q3]) (.seq (.rg (.op .no q5 q6 (.op .no q7 q8 qc))) (.seq (.rg (.op .no qe .loc (.op .no (.call (.lit (.clo 31 [])) [qf]) .loc (.op .no qg .loc (.op .no qh .loc (.op .no qj .loc (.op .no qk qm qr))))))) (.seq (.seq qx (.cond qy q11 .skip)) (.seq (.rgd (.op .no q12 .loc (.op .no (.softw q13 1 (.load 26 (.tmp 4)) (rfR 64491684863 [21] [4])) .loc (.op .no (.hard (.call q14 [qf, qi])) .loc (.op .no q15 .loc (.op .no q16 .loc (.op .no (.soft qj) .loc (.op .no (.soft q17) q19 q1a))))))) 0) (.seq (.seq (.rg (.op .no qt .loc q1c)) (.cond q1d q11 .skip)) (.seq (.rg (.op .no q1f .loc (.op .no q1g .loc (.op .no (.gen (.makeSlice 29 (.tmp 30) (.tmp 30)) (rfC 64491684863 [30, 29])) .loc q1i)))) (.seq (.seq q1o (.block 0 (.loop (.seq q1t (.seq q1w (.seq (.block 1 (.seq (.rg (.op .no q1x .loc (.op .no q1y .loc (.op .no q1z .loc (.op .no q20 q21 (.op .no q23 q24 (.op .no (.st 3 q25 qf) .non .fin))))))) (.rg (.op .no q27 .loc (.op .no q29 .loc (.op .no (.ld 3 true q25) .loc (.op .no q29 .loc (.op .no q2a .loc (.op .no q2b .loc (.op .no (.ias 4 q2d q2e) .loc q2f)))))))))) q2i)))))) (.seq (.rgd (.op .no q12 .loc (.op .no q2j .loc (.op .no (.hard (.call (.lit (.clo 34 [])) [q2k, qf])) .loc (.op .no (.softw q13 2 (.load 26 (.tmp 4)) (rfR 64491684863 [50, 49, 48] [4])) .loc (.op .no (.soft (.bld [(.mk 0 3 qf), (.mk 3 3 q2l), (.mk 6 1 qi)] [(.int .i64 (.ofNat 0)), (.int .i64 (.ofNat 0)), (.con (.slice Option.none 0 0)), (.int .u8 (.ofNat 0)), (.int .i64 (.ofNat 0)), (.int .i64 (.ofNat 0)), (.con (.slice Option.none 0 0))])) .loc (.op .no (.hard (.st 7 q0 qf)) .non (.op .no (.soft qa) qb .fin))))))) 0) .ret)))))))))
theorem cf10_ok : compF Go.Proofs.Tryz.prog xi10 = some cf10 := by kernel_rfl
noncomputable def xi11 := xiM 11 Go.Proofs.Tryz.f11 268435463
theorem xi11_ok : TabOK Go.Proofs.Tryz.prog [xi11] := tabOK1 Go.Proofs.Tryz.func11 (by kernel_rfl) (by kernel_rfl) rfl rfl
noncomputable def cf11 : FnC := (.mk 268435463 29 q2m (.seq q2o (.seq (.seq (.rg (.op .no q2p .loc (.op .no q2q .loc (.op .no (.bin .lss 3 qf q2g) .loc (.op .no qg .loc (.op q2r q2s .loc (.op q2t q2q .loc (.op q2u (.bin .lss 3 qf q2g) .loc (.op .no q2w .loc (.op .no qg .loc (.op q2r q2p .loc (.op q2t q2q .loc (.op q2u q2y .loc (.op .no q2w .loc (.op .no qg .loc (.op q2r q2s .loc (.op q2t q2q .loc (.op q2u q2y .loc (.op .no q2w .loc (.op .no qg .loc (.op q2r q2p .loc (.op q2t q2q .loc (.op q2u q2s .loc (.op q2z q2q .loc (.op q30 q31 .loc (.op q32 q2y .loc (.op .no (.pick q33 q2v qf) qb .fin))))))))))))))))))))))))))) q36) q38)))
theorem cf11_ok : compF Go.Proofs.Tryz.prog xi11 = some cf11 := by kernel_rfl
noncomputable def xi15 := xiM 15 Go.Proofs.Tryz.f15 17593194840959
theorem xi15_ok : TabOK Go.Proofs.Tryz.prog [xi15] := tabOK1 Go.Proofs.Tryz.func15 (by kernel_rfl) (by kernel_rfl) rfl rfl
noncomputable def cf15 : FnC := (.mk 17593194840959 45 q2m (.seq (.rg (.op .no q39 q6 q2n)) (.seq (.rg (.op .no q3a .loc (.op .no (.call (.lit (.clo 39 [])) [qf]) .loc (.op .no qg .loc (.op .no qh .loc (.op .no qj .loc (.op .no q3b qb (.op .no (.st 9 q2 qi) .non q3c)))))))) (.seq (.seq (.rg (.op .no q3d .loc q3e)) (.cond q25 (.seq (.rg (.op .no q3d .loc q3f)) .ret) .skip)) (.seq (.seq (.rg (.op .no q3g .loc (.op .no (.call (.lit (.clo 40 [])) [qf]) .loc qq))) (.seq qx (.cond qy (.seq (.rg (.op .no qt .loc q3f)) .ret) .skip))) (.seq (.rg (.op .no (.gen (.makeMap 105 Option.none) (rfC 17593194840959 [])) .loc (.op .no (.alloc 105 [(.con (.map Option.none))]) q19 (.op .no (.st 1 q1e qf) .non .fin)))) (.seq (.seq (.rg (.op .no q2p .loc (.op .no q3h .loc (.op .no q2q q1b q3i)))) (.block 0 (.loop (.seq q3j (.seq q3k (.seq (.block 1 (.seq (.rg (.op .no (.ias 3 q1d q1q) .loc (.op .no q1z .loc (.op .no q3l q1h q3m)))) (.rg (.op .no (.ld 1 false q1e) .loc (.op .no q3n .loc (.op .no q2q .loc (.op .no (.fadr 1 q26) .loc (.op .no q2q .loc (.op .no q3p .loc (.op .no (.fadr 2 q26) .loc (.op .no q2q .loc (.op .no (.gen (.mapUpdate 105 (.tmp 32) (.tmp 37) (.tmp 39)) (rfC 17593194840959 [39, 38, 37, 36, 35, 34, 33, 32])) .non .fin)))))))))))) q3r)))))) (.seq (.rg (.op .no q3s q24 (.op .no (.st 1 q28 q3t) .non .fin))) (.seq (.rg (.op .no q3g .loc (.op .no (.gen (.makeFunc (Fn.func 42) (Array.mk []) (Array.mk [(.tmp 9), (.tmp 6)])) (rfC 17593194840959 [41])) .loc (.op .no (.call (.lit (.clo 41 [])) [qi, qf]) .loc .fin)))) (.seq (.seq (.rg (.op .no (.ld 1 false q28) q1s .fin)) (.cond q1u (.seq (.rg (.op .no (.mv (.lit (.int .i64 (.ofNat 13)))) q8 .fin)) .ret) .skip)) q38))))))))))
theorem cf15_ok : compF Go.Proofs.Tryz.prog xi15 = some cf15 := by kernel_rfl
noncomputable def xi24 := xiM 24 Go.Proofs.Tryz.f24 4103
theorem xi24_ok : TabOK Go.Proofs.Tryz.prog [xi24] := tabOK1 Go.Proofs.Tryz.func24 (by kernel_rfl) (by kernel_rfl) rfl rfl
noncomputable def cf24 : FnC := (.mk 4103 13 q2m (.seq (.rg (.op .no q3u q6 q2n)) (.seq (.seq (.rg (.op .no q2p .loc (.op .no q2q .loc (.op .no (.call q3v [qf, q2g, q9]) .loc (.op .no qu .loc (.op .no qg .loc (.op q2r q2s .loc (.op q2t q2q .loc (.op q2u (.call q3v [qf, q2g, q2g]) .loc (.op q2z qu .loc (.op .no q3w qb .fin))))))))))) q36) q38)))
theorem cf24_ok : compF Go.Proofs.Tryz.prog xi24 = some cf24 := by kernel_rfl
noncomputable def xi25 := xiM 25 Go.Proofs.Tryz.f25 67831
theorem xi25_ok : TabOK Go.Proofs.Tryz.prog [xi25] := tabOK1 Go.Proofs.Tryz.func25 (by kernel_rfl) (by kernel_rfl) rfl rfl
noncomputable def cf25 : FnC := (.mk 67831 21 q3y (.seq (.rg (.op .no q3u q8 (.op .no qa qb q3z))) (.seq (.seq q42 (.seq q44 (.cond q26 (.seq (.rg (.op .no qt .loc (.op .no qa qb q3c))) .ret) .skip))) (.seq (.seq (.rg (.op .no q45 .loc (.op .no (.call q3v [qf, q9, q46]) .loc q47))) (.seq q49 (.cond q28 (.seq (.rg (.op .no q1f .loc (.op .no qa qb q3c))) .ret) .skip))) (.seq (.rg (.op .no q40 .loc (.op .no q45 .loc (.op .no (.call (.lit (.clo 74 [])) [qi, qf]) .loc q4a)))) .ret)))))
theorem cf25_ok : compF Go.Proofs.Tryz.prog xi25 = some cf25 := by kernel_rfl
noncomputable def xi26 := xiM 26 Go.Proofs.Tryz.f26 730750818665461843695559486013398570820625760255
theorem xi26_ok : TabOK Go.Proofs.Tryz.prog [xi26] := tabOK1 Go.Proofs.Tryz.func26 (by kernel_rfl) (by kernel_rfl) rfl rfl
noncomputable def cf26 : FnC := (.mk 730750818665461843695559486013398570820625760255 179 (.one (.tmp q4)) (.seq q4d (.seq (.rg (.op .no (.bld [(.mk 0 1 q4e), (.mk 1 1 (.lit (.int .i64 (.ofNat 500))))] [(.int .i64 (.ofNat 0)), (.int .i64 (.ofNat 0))]) .loc (.op .no (.alloc 69 [(.int .i64 (.ofNat 0)), (.int .i64 (.ofNat 0))]) q6 (.op .no (.st 2 qd qf) .non .fin)))) (.seq (.rg (.op .no qe .loc (.op .no (.call q4f [qf, q9]) .loc q4g))) (.seq (.rg (.op .no qe .loc (.op .no (.call q4f [qf, q2g]) .loc q4i))) (.seq (.rg (.op .no qe .loc (.op .no (.call q4f [qf, q46]) .loc q4j))) (.seq (.rg (.op .no (.bld [(.mk 0 1 q4k), (.mk 1 1 q2g)] [(.int .i64 (.ofNat 0)), (.int .i64 (.ofNat 0))]) .loc (.op .no (.call q4f [qf, q9]) .loc q4m))) (.seq (.rg (.op .no qe .loc (.op .no (.call (.lit (.clo 28 [])) [qf, q4n]) .loc q4p))) (.seq (.seq (.rg (.op .no q4q .loc (.op .no qu .loc (.op .no qg .loc (.op q2r qt .loc (.op q2t qu .loc (.op .no q4r .loc (.op .no qg .loc (.op q2r q27 .loc (.op q2t qu .loc (.op .no q4r .loc (.op .no qg .loc (.op q2r q4s .loc (.op q2t qu .loc (.op .no q4r .loc (.op .no qg .loc (.op q2r q4t .loc (.op q2t qu .loc (.op .no q4r .loc (.op .no qg .loc (.op q2r q4u .loc (.op q2t (.bin .neq 3 qf (.lit (.int .i64 (.ofNat 157)))) .loc (.op .no q4r .loc (.op .no qg .loc (.op q2r q3d .loc (.op q2t (.bin .neq 3 qf (.lit (.int .i64 (.ofNat 314)))) .loc (.op .no q4r .loc (.op .no qg .loc (.op q2r q1f .loc (.op q2t q4v .loc (.op .no q4r .loc (.op .no qg .loc (.op q2r q29 .loc (.op q2t (.bin .neq 3 qf (.lit (.int .i64 (.ofNat 178)))) .loc (.op .no q4r .loc (.op .no qg .loc (.op q2r q4w .loc (.op q2t q1g .loc (.op q2u (.bin .neq 3 qf q4n) .loc (.op .no q2w .loc (.op .no qg .loc (.op q2r q4w .loc (.op q2t (.gen (.call (Call.mk (Callee.builtin Builtin.cap) (Array.mk [(.tmp 86)]) (Array.mk [50]))) (rfC 730750818665461843695559486013398570820625760255 [86, 85, 84, 83, 82, 81, 80, 79, 78, 77, 76, 75, 74, 73, 72, 71, 70, 69, 68, 67, 66, 65, 64, 63, 62, 61, 60, 59, 58, 57, 56, 55, 54, 53, 52, 51, 50, 49, 48, 47, 46])) .loc (.op q2u (.bin .neq 3 qf q4n) .loc (.op .no q2w .loc (.op .no qg .loc (.op q2r q4w .loc (.op q2t q4x .loc (.op q2u q2q .loc (.op q2z q4y .loc (.op .no q3w .loc (.op .no qg .loc (.op q2r q4w .loc (.op q2t (.ias 1 qf q2g) .loc (.op q2u q2q .loc (.op q2z (.bin .neq 3 qf q4e) .loc (.op .no q3w .loc (.op .no qg .loc (.op q2r q4w .loc (.op q2t (.ias 1 qf q46) .loc (.op q2u q2q .loc (.op q2z (.bin .neq 3 qf (.lit (.int .i64 (.ofNat 200)))) .loc (.op .no q3w .loc (.op .no qg .loc (.op q2r q4w .loc (.op q2t (.ias 1 qf q4z) .loc (.op q2u q2q .loc (.op q2z (.bin .neq 3 qf (.lit (.int .i64 (.ofNat 300)))) .loc (.op .no q3w q51 .fin))))))))))))))))))))))))))))))))))))))))))))))))))))))))))))))))))))) (.cond q52 (.seq q4d .ret) .skip)) (.seq (.rg (.op .no (.call (.lit (.clo 75 [])) []) .loc (.op .no q7 q1j (.op .no (.st 7 q1k qf) .non .fin)))) (.seq (.rg (.op .no q53 .loc (.op .no q54 .loc (.op .no qg .loc (.op .no qh .loc (.op .no qj .loc (.op .no q17 q1l q2h))))))) (.seq (.rg (.op .no q53 .loc (.op .no qe .loc (.op .no (.call (.lit (.clo 76 [])) [qi, qf]) .loc (.op .no qg .loc (.op .no qh .loc (.op .no qj .loc (.op .no q17 q1s q57)))))))) (.seq (.rg (.op .no q53 .loc (.op .no qe .loc (.op .no (.call (.lit (.clo 77 [])) [qi, qf]) .loc (.op .no qg .loc (.op .no qh .loc (.op .no qj .loc (.op .no q58 .loc (.op .no q23 q5a (.op .no q17 q5c (.op .no qg q5e .fin))))))))))) (.seq (.seq (.rg (.op .no q1x .loc (.op .no qu .loc (.op .no qg .loc (.op q2r q5g .loc (.op q2t qu .loc (.op .no q4r .loc (.op .no qg .loc (.op q2r (.mv q5h) .loc (.op q2t qu .loc (.op .no q4r .loc (.op .no qg .loc (.op q2r q5i .loc (.op q2t q1g .loc (.op q2u (.bin .neq 3 qf q4z) .loc (.op .no q2w .loc (.op .no qg .loc (.op q2r (.mv q1u) .loc (.op q2t (.bin .neq 3 qf (.lit (.int .i64 (.ofNat 400)))) .loc (.op .no q4r .loc (.op .no qg .loc (.op q2r (.mv q5j) .loc (.op q2t q4v .loc (.op .no q4r .loc (.op .no qg .loc (.op q2r (.mv q5k) .loc (.op q2t (.bin .neq 3 qf (.lit (.int .i64 (.ofNat 785)))) .loc (.op .no q4r q5m .fin)))))))))))))))))))))))))))) (.cond q5n (.seq q4d .ret) .skip)) (.seq (.rg (.op .no q5i .loc (.op .no (.ias 2 qf q9) .loc (.op .no q5o .loc (.op .no (.bld [(.mk 1 1 q46)] [(.int .i64 (.ofNat 0)), (.int .i64 (.ofNat 0))]) .loc (.op .no q5p .loc (.op .no qg .loc (.op q5q q5i .loc (.op q5r (.ias 2 qf q2g) .loc (.op q5s q5o .loc (.op q5t (.bld [(.mk 0 1 q2g)] [(.int .i64 (.ofNat 0)), (.int .i64 (.ofNat 0))]) .loc (.op q5u q5p .loc (.op .no q5v .loc (.op .no qg .loc (.op q5q q5i .loc (.op q5r (.ias 2 qf q46) .loc (.op q5s q5o .loc (.op q5t (.bld [(.mk 0 1 q46)] [(.int .i64 (.ofNat 0)), (.int .i64 (.ofNat 0))]) .loc (.op q5u q5p .loc (.op .no q5v .loc q5w)))))))))))))))))))) .ret)))))))))))))))
theorem cf26_ok : compF Go.Proofs.Tryz.prog xi26 = some cf26 := by kernel_rfl
noncomputable def xi28 := xiM 28 Go.Proofs.Tryz.f28 58991607
theorem xi28_ok : TabOK Go.Proofs.Tryz.prog [xi28] := tabOK1 Go.Proofs.Tryz.func28 (by kernel_rfl) (by kernel_rfl) rfl rfl
noncomputable def cf28 : FnC := (.mk 58991607 36 q3y (.seq (.rg (.op .no q3u q8 (.op .no q5x qb q3z))) (.seq (.seq q42 (.seq (.rg (.op .no qt .loc q3e)) (.cond q25 (.seq (.rg (.op .no qt .loc (.op .no q5x qb q3c))) .ret) .skip))) (.seq (.seq (.rg (.op .no q45 .loc (.op .no (.call q3v [qf, q2g, q4z]) .loc q47))) (.seq (.rg (.op .no q1f .loc qw)) (.cond qy (.seq (.rg (.op .no q1f .loc (.op .no q5x qb q3c))) .ret) .skip))) (.seq (.rg (.op .no q45 .loc (.op .no (.gen (.makeSlice 50 (.tmp 20) (.tmp 20)) (rfC 58991607 [20])) .loc q1i))) (.seq (.seq (.rg (.op .no q27 .loc (.op .no q1g q1b (.op .no qa q1j .fin)))) (.block 0 (.loop (.seq q5y (.seq (.cond q1q .skip q1v) (.seq (.block 1 (.seq (.rg (.op .no q5z .loc q60)) (.rg (.op .no q27 .loc (.op .no q29 .loc (.op .no q29 .loc (.op .no q61 .loc (.op .no q2q .loc (.op .no q31 .loc q63))))))))) q65)))))) (.seq (.rg (.op .no q27 .loc q4a)) .ret)))))))
theorem cf28_ok : compF Go.Proofs.Tryz.prog xi28 = some cf28 := by kernel_rfl
noncomputable def xi29 := xiM 29 Go.Proofs.Tryz.f29 1361130119258639460758097274843451846655
theorem xi29_ok : TabOK Go.Proofs.Tryz.prog [xi29] := tabOK1 Go.Proofs.Tryz.func29 (by kernel_rfl) (by kernel_rfl) rfl rfl
noncomputable def cf29 : FnC := (.mk 1361130119258639460758097274843451846655 133 (.many [(.cell 7 true qn), q66]) (.seq (.rg (.op .no q39 q8 (.op .no (.box 45 qd) qb (.op .no q7 qm q67)))) (.seq (.seq q6a (.seq (.rg (.op .no q1f .loc (.op .no qu q5e .fin))) (.cond q5h (.seq (.rg (.op .no qz .loc (.op .no q1f .loc q6b))) .ret) .skip))) (.seq (.seq (.rg (.op .no (.ld 4 true q2) .loc (.op .no (.call (.lit (.clo 78 [])) [qf]) .loc q1i))) (.seq (.rg (.op .no q27 .loc (.op .no qu q51 .fin))) (.cond q52 (.seq (.rg (.op .no qz .loc (.op .no q27 .loc q6b))) .ret) .skip))) (.seq (.rg (.op .no q68 .loc (.op .no q6c .loc (.op .no q5o .loc (.op .no (.call (.lit (.clo 79 [])) [q22, qf]) .loc (.op .no qg .loc (.op .no qh .loc (.op .no qj .loc (.op .no q58 .loc (.op .no q23 q24 (.op .no q17 q21 q6d))))))))))) (.seq (.seq (.rg (.op .no q4w .loc (.op .no qu q5m .fin))) (.cond q5n (.seq (.rg (.op .no qz .loc (.op .no q4w .loc q6b))) .ret) .skip)) (.seq (.seq (.rg (.op .no q29 .loc (.op .no q1g .loc (.op .no q6e q6f .fin)))) (.cond q6g (.seq (.rg (.op .no qz .loc (.op .no (.st 7 qn qf) .non q6i))) .ret) .skip)) (.seq (.rg (.op .no q6c .loc (.op .no q5o .loc (.op .no q6j .loc (.op .no qg .loc (.op .no qh .loc (.op .no qj .loc (.op .no q6k q1b (.op .no (.st 3 q1d qi) .non q6l))))))))) (.seq (.rg (.op .no (.fadr 6 q0) .loc (.op .no q2q .loc (.op .no q6c .loc (.op .no q5o .loc (.op .no (.call (.lit (.clo 80 [])) [q22, qf]) .loc (.op .no qg .loc (.op .no qh .loc (.op .no qj .loc (.op .no q58 .loc (.op .no q23 q1j (.op .no q17 q1l q6l)))))))))))) (.seq (.rg (.op .no q5z .loc (.op .no q5i .loc (.op .no q17 q1m q6m)))) (.seq (.seq (.rg (.op .no q6n .loc (.op .no q2q .loc (.op .no (.bin .eql 5 qf q6o) q6p .fin)))) (.cond q6q (.rg (.op .no q5i .loc (.op .no q5z .loc (.op .no q17 q1m q6m)))) .skip)) (.seq (.rgd (.op .no q6r .loc (.op .no (.hard (.call (.lit (.clo 82 [])) [qf])) .loc (.op .no (.softw q6s 1 (.load 28 (.tmp 11)) (rfR 1361130119258639460758097274843451846655 [74, 73] [11])) .loc (.op .no (.hard (.call (.lit (.clo 81 [])) [qi, qf])) .loc (.op .no q15 .loc (.op .no q16 .loc (.op .no (.soft qj) .loc (.op .no (.soft q17) q56 (.op .no q15 qv .fin))))))))) 0) (.seq (.seq (.rg (.op .no q4w .loc (.op .no qu q6t .fin))) (.cond q6u q6w .skip)) (.seq (.rg (.op .no q6x .loc (.op .no q1z .loc (.op .no (.bld [(.mk 3 3 qf)] [(.int .i64 (.ofNat 0)), (.int .i64 (.ofNat 0)), (.con (.slice Option.none 0 0)), (.int .u8 (.ofNat 0)), (.int .i64 (.ofNat 0)), (.int .i64 (.ofNat 0)), (.con (.slice Option.none 0 0))]) .loc (.op .no q7 q5a (.op .no (.st 7 q5j qf) .non .fin)))))) (.seq (.seq (.rgd (.op .no q6y .loc (.op .no (.soft q4x) .loc (.op .no q6z .loc (.op .no q70 .loc (.op .no q6z .loc (.op .no (.soft (.gen (.convert 5 3 (.tmp 89)) (rfR 1361130119258639460758097274843451846655 [89, 88, 87, 86, 85] [89]))) .loc (.op .no (.soft (.bin .eql 3 q2l qf)) q71 .fin))))))) 0) (.cond q72 (.seq (.rg (.op .no q6x .loc (.op .no q1z .loc (.op .no q6s .loc (.op .no q73 .loc (.op .no qg .loc (.op .no qh .loc (.op .no qj .loc (.op .no (.fadr 3 q5j) .loc (.op .no q74 .non (.op .no q17 qv .fin))))))))))) (.seq (.rg (.op .no q4w .loc (.op .no qu q75 .fin))) (.cond q76 q6w .skip))) .skip)) (.seq (.rg (.op .no q1x .loc (.op .no q5g .loc q77))) (.seq (.seq (.rg (.op .no (.fadr 3 q2) .loc (.op .no q2q .loc (.op .no q78 q79 .fin)))) (.cond q7a (.rg (.op .no q5g .loc (.op .no q1x .loc q77))) .skip)) (.seq (.rg (.op .no q61 .loc (.op .no q1z .loc (.op .no q6x .loc (.op .no q1z .loc (.op .no q7b .loc (.op .no qg .loc (.op .no qh .loc (.op .no qj .loc (.op .no (.alloc 98 [(.con (.slice Option.none 0 0))]) q5c (.op .no (.st 1 q5k qi) .non q6l))))))))))) (.seq (.rg (.op .no q61 .loc (.op .no q1z .loc (.op .no q29 .loc (.op .no (.gen (.makeFunc (Fn.func 85) (Array.mk []) (Array.mk [(.tmp 20), (.tmp 3)])) (rfC 1361130119258639460758097274843451846655 [124, 123, 122])) .loc (.op .no (.call (.lit (.clo 84 [])) [q22, qi, qf]) .loc (.op .no (.fadr 0 q5j) .loc (.op .no (.st 3 qf qi) .non .fin)))))))) (.seq (.seq (.rg (.op .no (.ld 7 true q5j) .loc (.op .no q69 .loc (.op .no qu q7c .fin)))) (.cond q7d q6w .skip)) (.seq (.rg (.op .no (.ld 7 true q5j) .loc (.op .no (.st 7 qn qf) .non q67))) .ret)))))))))))))))))))))
theorem cf29_ok : compF Go.Proofs.Tryz.prog xi29 = some cf29 := by kernel_rfl
noncomputable def xi30 := xiM 30 Go.Proofs.Tryz.f30 4027075327
theorem xi30_ok : TabOK Go.Proofs.Tryz.prog [xi30] := tabOK1 Go.Proofs.Tryz.func30 (by kernel_rfl) (by kernel_rfl) rfl rfl
noncomputable def cf30 : FnC := (.mk 4027075327 78 q7e (.seq (.rg (.op .no q39 q6 q7f)) (.seq (.seq (.rg (.op .no q3a .loc (.op .no q69 .loc q3c))) (.seq (.rg (.op .no q3d .loc q1c)) (.cond q1d q7g .skip))) (.seq (.rg (.op .no q2p .loc (.op .no q3h .loc (.op .no q2q .loc (.op .no q1g .loc (.op .no (.gen (.makeSlice 78 (.const (.int .i64 (.ofNat 0))) (.tmp 24)) (rfC 4027075327 [24, 23, 22, 21])) .loc qq)))))) (.seq (.seq (.rg (.op .no q2p .loc (.op .no q3h .loc (.op .no q2q q1j q1n)))) (.block 0 (.loop (.seq q1t (.seq q1w (.seq (.block 1 (.seq (.rg (.op .no q1x .loc (.op .no q1y .loc (.op .no q1z .loc (.op .no q3l q1h (.op .no q23 q19 q3m)))))) (.seq (.rg (.op .no (.fadr 6 qd) .loc (.op .no q2q .loc (.op .no q3n .loc (.op .no q2q .loc (.op .no (.call (.lit (.clo 86 [])) [q22, qf]) .loc (.op .no qg .loc (.op .no qh .loc (.op .no qj .loc (.op .no q58 .loc (.op .no q20 .loc (.op .no (.st 3 qf q2l) .non (.op .no q23 q24 (.op .no q17 .loc .fin)))))))))))))) (.seq (.rg (.op .no q2p .loc (.op .no q7h .loc (.op .no q5o .loc (.op .no q3n .loc (.op .no q2q .loc (.op .no (.fadr 1 q26) .loc (.op .no q2q .loc (.op .no q7i .loc q7j))))))))) (.seq (.rg (.op .no (.fadr 6 qd) .loc (.op .no q2q .loc (.op .no q4s .loc (.op .no (.call (.lit (.clo 86 [])) [qi, qf]) .loc (.op .no qg .loc (.op .no qh .loc (.op .no qj .loc (.op .no q58 .loc (.op .no q20 .loc (.op .no (.st 3 qf q2l) .non (.op .no q23 qv (.op .no q17 .loc .fin))))))))))))) (.rg (.op .no qt .loc (.op .no q1f .loc (.op .no q29 .loc (.op .no q4w .loc (.op .no q7k .loc (.op .no q4w .loc (.op .no q29 .loc (.op .no q7k .loc (.op .no (.gen (.call (Call.mk (Callee.builtin Builtin.max) (Array.mk [(.tmp 67), (.tmp 70)]) (Array.mk [3, 3]))) (rfC 4027075327 [70, 69, 68, 67, 66, 65, 64, 63])) .loc (.op .no q7l .loc (.op .no (.bld [(.mk 0 1 q7n), q3o] [(.int .i64 (.ofNat 0)), (.int .i64 (.ofNat 0))]) .loc (.op .no (.bsl 83 1 2 [qf]) .loc (.op .no (.app 78 83 2 16 q7o qf) .loc qq))))))))))))))))))) q2i)))))) (.seq (.rg (.op .no qt .loc q7p)) .ret))))))
theorem cf30_ok : compF Go.Proofs.Tryz.prog xi30 = some cf30 := by kernel_rfl
noncomputable def xi31 := xiM 31 Go.Proofs.Tryz.f31 287
theorem xi31_ok : TabOK Go.Proofs.Tryz.prog [xi31] := tabOK1 Go.Proofs.Tryz.func31 (by kernel_rfl) (by kernel_rfl) rfl rfl
noncomputable def cf31 : FnC := (.mk 287 13 q7q (.seq (.rg (.op .no q5 q6 (.op .no qk q8 qc))) (.seq (.seq q7s (.seq (.rg (.op .no q3d .loc (.op .no qu qp .fin))) (.cond qs (.seq (.rg (.op .no (.bld [] [(.int .i64 (.ofNat 0)), (.int .i64 (.ofNat 0)), (.con (.slice Option.none 0 0))]) .loc (.op .no q3d .loc (.op .no (.st 3 q0 qi) .non q10)))) .ret) .skip))) (.seq (.rg (.op .no qe .loc (.op .no (.bld [q7t] [(.int .i64 (.ofNat 0)), (.int .i64 (.ofNat 0)), (.con (.slice Option.none 0 0))]) .loc q7u))) .ret))))
theorem cf31_ok : compF Go.Proofs.Tryz.prog xi31 = some cf31 := by kernel_rfl
noncomputable def xi32 := xiM 32 Go.Proofs.Tryz.f32 447
theorem xi32_ok : TabOK Go.Proofs.Tryz.prog [xi32] := tabOK1 Go.Proofs.Tryz.func32 (by kernel_rfl) (by kernel_rfl) rfl rfl
noncomputable def cf32 : FnC := (.mk 447 18 q7v (.seq q7y (.seq (.rg (.op .no q7z .loc (.op .no q80 .loc (.op .no q81 .loc (.op .no qg .loc (.op .no qh .loc (.op .no qj .loc (.op .no q58 .loc (.op .no q23 .loc (.op .no q23 q19 q82)))))))))) q83)))
theorem cf32_ok : compF Go.Proofs.Tryz.prog xi32 = some cf32 := by kernel_rfl
noncomputable def xi33 := xiM 33 Go.Proofs.Tryz.f33 1
theorem xi33_ok : TabOK Go.Proofs.Tryz.prog [xi33] := tabOK1 Go.Proofs.Tryz.func33 (by kernel_rfl) (by kernel_rfl) rfl rfl
noncomputable def cf33 : FnC := (.mk 1 2 (.one (.cell 3 true q4)) (.seq (.rg (.op .no q6k q4c .fin)) (.seq (.rg (.op .no q84 .loc (.op .no (.st 3 q4 qf) .non .fin))) .ret)))
theorem cf33_ok : compF Go.Proofs.Tryz.prog xi33 = some cf33 := by kernel_rfl
noncomputable def xi34 := xiM 34 Go.Proofs.Tryz.f34 8070450540872404851
theorem xi34_ok : TabOK Go.Proofs.Tryz.prog [xi34] := tabOK1 Go.Proofs.Tryz.func34 (by kernel_rfl) (by kernel_rfl) rfl rfl
noncomputable def cf34 : FnC := (.mk 8070450540872404851 76 q2m (.seq q85 (.seq (.rg (.op .no (.gen (.makeMap 170 Option.none) (rfC 8070450540872404851 [])) .loc q10)) (.seq (.rg (.op .no q5x qm .fin)) (.seq (.seq (.rg (.op .no q86 .loc (.op .no q45 .loc (.op .no (.bsl 29 2 1 [qi, qf]) .loc (.op .no (.call (.lit (.clo 89 [])) [qf]) q21 q87))))) (.block 0 (.loop (.seq q88 (.seq (.cond q1k .skip q1v) (.seq (.block 1 (.seq (.rg (.op .no (.ias 4 q25 q1d) .loc q8b)) (.seq (.seq (.rg (.op .no (.fadr 3 qs) .loc (.op .no q2q .loc (.op .no q1g .loc (.op .no q6e q1l .fin))))) (.cond q1q (.exit 1) .skip)) (.seq (.seq (.rg (.op .no q4q .loc (.op .no (.fadr 0 qs) .loc (.op .no q1z .loc (.op .no (.gen (.lookup 170 (.tmp 27) (.tmp 29) true) (rfC 8070450540872404851 [29, 28, 27])) .loc q4j))))) (.seq (.rg (.op .no q27 q1m .fin)) (.cond q1p (.seq (.rgd (.op .no q8c .loc (.op .no q8d .loc (.op .no q8f .loc (.op .no q8g .loc (.op .no q6z .loc (.op .no (.soft (.fadr 3 qs)) .loc (.op .no q6z .loc (.op .no (.hard q8h) .loc (.op .no q8c .loc (.op .no q8d .loc (.op .no q8f .loc (.op .no q8g .loc q8i)))))))))))) 0) (.exit 1)) .skip))) (.seq (.rg (.op .no q4q .loc (.op .no (.fadr 0 qs) .loc (.op .no q1z .loc (.op .no q3d .loc (.op .no q1g .loc (.op .no (.gen (.mapUpdate 170 (.tmp 46) (.tmp 48) (.tmp 50)) (rfC 8070450540872404851 [50, 49, 48, 47, 46])) .non .fin))))))) (.rg (.op .no q3d .loc (.op .no (.ld 4 true qs) .loc (.op .no q8j .loc (.op .no (.bsl 92 1 4 [qf]) .loc (.op .no (.app 29 92 4 48 q2l qf) .loc q3c))))))))))) q8k)))))) (.seq (.rg (.op .no q3d .loc (.op .no (.call (.lit (.clo 91 [])) [qf, (.lit (.clo 92 []))]) .loc .fin))) (.seq (.seq (.rg (.op .no q3d .loc (.op .no q1g q1s (.op .no qa q56 .fin)))) (.block 2 (.loop (.seq q8l (.seq (.cond q5j .skip q8m) (.seq (.block 3 (.seq (.rg (.op .no q5g .loc q60)) (.rg (.op .no q3d .loc (.op .no q29 .loc (.op .no q3d .loc (.op .no q29 .loc (.op .no q8e .loc (.op .no q89 .loc q8n))))))))) q8o)))))) (.seq (.rg (.op .no q3d .loc (.op .no (.call (.lit (.clo 95 [])) [qf]) .loc (.op .no q8p .loc q3f)))) .ret))))))))
theorem cf34_ok : compF Go.Proofs.Tryz.prog xi34 = some cf34 := by kernel_rfl
noncomputable def xi39 := xiM 39 Go.Proofs.Tryz.f39 262271
theorem xi39_ok : TabOK Go.Proofs.Tryz.prog [xi39] := tabOK1 Go.Proofs.Tryz.func39 (by kernel_rfl) (by kernel_rfl) rfl rfl
noncomputable def cf39 : FnC := (.mk 262271 34 (.many [(.cell 9 true q0), q3]) (.seq (.rg (.op .no q39 q6 (.op .no q3b q8 qc))) (.seq (.rg (.op .no q2p .loc (.op .no q1z .loc (.op .no (.fadr 3 qd) .loc (.op .no q1z .loc (.op .no (.fadr 6 qd) .loc (.op .no q2q .loc (.op .no (.call (.lit (.clo 97 [])) [q2e, q22, qf]) .loc q4i)))))))) (.seq (.seq q44 (.cond q26 (.seq (.rg (.op .no (.bld [] [(.int .i64 (.ofNat 0)), (.int .i64 (.ofNat 0)), (.con (.slice Option.none 0 0)), (.int .u8 (.ofNat 0)), (.int .i64 (.ofNat 0)), (.int .i64 (.ofNat 0)), (.con (.slice Option.none 0 0)), (.con (.slice Option.none 0 0)), (.con (.slice Option.none 0 0))]) .loc q8q)) .ret) .skip)) (.seq (.rg (.op .no q2p .loc (.op .no q1z .loc (.op .no (.fadr 3 qd) .loc (.op .no q1z .loc (.op .no q7b .loc (.op .no qg .loc (.op .no qh .loc (.op .no qj .loc (.op .no q17 q19 qq)))))))))) (.seq (.rg (.op .no q3a .loc (.op .no q1f .loc (.op .no q3d .loc (.op .no (.bld [(.mk 0 7 q22), (.mk 7 1 qi), (.mk 8 1 qf)] [(.int .i64 (.ofNat 0)), (.int .i64 (.ofNat 0)), (.con (.slice Option.none 0 0)), (.int .u8 (.ofNat 0)), (.int .i64 (.ofNat 0)), (.int .i64 (.ofNat 0)), (.con (.slice Option.none 0 0)), (.con (.slice Option.none 0 0)), (.con (.slice Option.none 0 0))]) .loc q8q))))) .ret))))))
theorem cf39_ok : compF Go.Proofs.Tryz.prog xi39 = some cf39 := by kernel_rfl
noncomputable def xi40 := xiM 40 Go.Proofs.Tryz.f40 132055
theorem xi40_ok : TabOK Go.Proofs.Tryz.prog [xi40] := tabOK1 Go.Proofs.Tryz.func40 (by kernel_rfl) (by kernel_rfl) rfl rfl
noncomputable def cf40 : FnC := (.mk 132055 19 q2m (.seq (.rg (.op .no (.box 101 q4) q6 q2n)) (.seq (.seq (.rg (.op .no (.fadr 8 qd) .loc (.op .no q2q qm q8s))) (.block 0 (.loop (.seq q8t (.seq q8u (.seq (.block 1 (.seq (.rg (.op .no (.ias 9 qn q1e) .loc q8w)) (.seq (.rg (.op .no q3g .loc (.op .no q2p .loc (.op .no q8x .loc (.op .no q2q .loc (.op .no (.call (.lit (.clo 98 [])) [q2l, qf]) .loc q48)))))) (.cond q28 (.seq (.rg (.op .no (.mv q8y) q8 .fin)) .ret) .skip)))) q8z)))))) q38)))
theorem cf40_ok : compF Go.Proofs.Tryz.prog xi40 = some cf40 := by kernel_rfl
noncomputable def xi41 := xiM 41 Go.Proofs.Tryz.f41 990887
theorem xi41_ok : TabOK Go.Proofs.Tryz.prog [xi41] := tabOK1 Go.Proofs.Tryz.func41 (by kernel_rfl) (by kernel_rfl) rfl rfl
noncomputable def cf41 : FnC := (.mk 990887 35 q90 (.seq (.rg (.op .no (.box 101 q4) q8 .fin)) (.seq (.rg (.op .no (.fadr 8 q0) .loc (.op .no q2q qp q92))) (.block 0 (.loop (.seq q93 (.seq q94 (.seq (.block 1 (.seq (.rg (.op .no (.ias 9 qs q26) .loc q8w)) (.seq (.rg (.op .no (.fadr 7 q2) .loc (.op .no q2q q21 q87))) (.block 2 (.loop (.seq q88 (.seq (.cond q1k .skip q8m) (.seq (.block 3 (.seq (.rg (.op .no (.ias 3 q25 q1d) .loc (.op .no q1z .loc (.op .no q95 qm q97)))) (.rgd (.op .no q98 .loc (.op .no q99 .loc (.op .no q99 .loc (.op .no q9a .loc (.op .no q9b .loc (.op .no (.hard (.call (.lit (.clo 99 [])) [qi, qf])) .loc (.op .no (.softw (.ld 9 true q0) 1 (.load 101 (.tmp 2)) (rfR 990887 [28, 27, 26, 25, 24, 23] [2])) .loc (.op .no (.softw q13 1 (.load 186 (.tmp 7)) (rfR 990887 [29, 28, 27, 26, 25, 24, 23] [7])) .loc (.op .no (.hard (.call (.lit (.clo 100 [])) [qi, qf])) .loc (.op .no q9c .loc (.op .no (.hard (.call qf [q2e, qi])) .loc .fin))))))))))) 0))) q8k)))))))) q9d))))))))
theorem cf41_ok : compF Go.Proofs.Tryz.prog xi41 = some cf41 := by kernel_rfl
noncomputable def xi42 := xiM 42 Go.Proofs.Tryz.f42 31
theorem xi42_ok : TabOK Go.Proofs.Tryz.prog [xi42] := tabOK1 Go.Proofs.Tryz.func42 (by kernel_rfl) (by kernel_rfl) rfl rfl
noncomputable def cf42 : FnC := (.mk 31 20 q90 (.seq (.rg (.op .no (.box 107 q4) qm .fin)) (.rg (.op .no q9e .loc (.op .no qg .loc (.op q2r q9f .loc (.op q2t (.ld 2 true qn) .loc (.op q2u (.gen (.lookup 105 (.tmp 8) (.tmp 9) false) (rfC 31 [9, 8, 7, 6])) .loc (.op q2z (.bin .neq 60 qf q9g) .loc (.op q30 qg .loc (.op q5q q9f .loc (.op q5r (.ld 2 true qn) .loc (.op q5s (.gen (.lookup 105 (.tmp 13) (.tmp 14) false) (rfC 31 [14, 13, 12, 11, 10, 9, 8, 7, 6])) .loc (.op q5t q45 .loc (.op q5u (.bin .neq 60 qi qf) .loc (.op (.yes q9h false) q5v .loc (.op .no (.pick q7o q2v qf) .loc q9i)))))))))))))))))
theorem cf42_ok : compF Go.Proofs.Tryz.prog xi42 = some cf42 := by kernel_rfl
noncomputable def xi43 := xiM 43 Go.Proofs.Tryz.f43 17389
theorem xi43_ok : TabOK Go.Proofs.Tryz.prog [xi43] := tabOK1 Go.Proofs.Tryz.func43 (by kernel_rfl) (by kernel_rfl) rfl rfl
noncomputable def cf43 : FnC := (.mk 17389 18 q9j (.seq q9k (.seq q37 (.seq (.seq q9l (.block 0 (.loop (.seq q8t (.seq q8u (.seq (.block 1 (.seq q9n (.seq (.rg (.op .no q4q .loc (.op .no q4u .loc (.op .no (.bin .neq 3 qi qf) q24 .fin)))) q9p))) q8z)))))) q9q))))
theorem cf43_ok : compF Go.Proofs.Tryz.prog xi43 = some cf43 := by kernel_rfl
noncomputable def xi45 := xiM 45 Go.Proofs.Tryz.f45 604275
theorem xi45_ok : TabOK Go.Proofs.Tryz.prog [xi45] := tabOK1 Go.Proofs.Tryz.func45 (by kernel_rfl) (by kernel_rfl) rfl rfl
noncomputable def cf45 : FnC := (.mk 604275 20 q2m (.seq q37 (.seq (.rg (.op .no q86 .loc (.op .no q9r .loc q10))) (.seq (.rg (.op .no q45 .loc (.op .no q9r .loc q3c))) (.seq q9u (.seq q9v (.seq (.seq (.rg (.op .no q86 .loc q9x)) (.cond q28 q9t .skip)) (.seq (.seq (.rg (.op .no q86 .loc (.op .no q45 .loc (.op .no q9y q21 .fin)))) q9z) q38))))))))
theorem cf45_ok : compF Go.Proofs.Tryz.prog xi45 = some cf45 := by kernel_rfl
noncomputable def xi46 := xiM 46 Go.Proofs.Tryz.f46 604275
theorem xi46_ok : TabOK Go.Proofs.Tryz.prog [xi46] := tabOK1 Go.Proofs.Tryz.func46 (by kernel_rfl) (by kernel_rfl) rfl rfl
noncomputable def cf46 : FnC := (.mk 604275 20 q2m (.seq q37 (.seq (.rg (.op .no q86 .loc (.op .no qa0 .loc q10))) (.seq (.rg (.op .no q45 .loc (.op .no qa0 .loc q3c))) (.seq q9u (.seq q9v (.seq (.seq (.rg (.op .no q86 .loc (.op .no q45 .loc (.op .no (.bin .lss 5 qi qf) q24 .fin)))) (.cond q28 q9t .skip)) (.seq (.seq (.rg (.op .no q86 .loc (.op .no q45 .loc (.op .no (.bin .gtr 5 qi qf) q21 .fin)))) q9z) q38))))))))
theorem cf46_ok : compF Go.Proofs.Tryz.prog xi46 = some cf46 := by kernel_rfl
noncomputable def xi55 := xiM 55 Go.Proofs.Tryz.f55 4261455
theorem xi55_ok : TabOK Go.Proofs.Tryz.prog [xi55] := tabOK1 Go.Proofs.Tryz.func55 (by kernel_rfl) (by kernel_rfl) rfl rfl
noncomputable def cf55 : FnC := (.mk 4261455 35 q7q (.seq (.rg (.op .no qa1 q6 (.op .no q6k q8 qc))) (.seq (.seq (.rg (.op .no qe .loc (.op .no qa2 .loc (.op .no qu qm .fin)))) (.cond qn (.seq (.rg (.op .no q84 .loc (.op .no (.st 3 q0 qf) .non (.op .no q34 qb .fin)))) .ret) .skip)) (.seq (.seq (.rg (.op .no q2p .loc (.op .no q2q qp .fin))) (.block 0 (.seq (.rg (.op .no (.bin .eql 41 qs qa3) .loc q47)) (.cond q1e (.seq (.rg (.op .no q2s .loc (.op .no q2q .loc (.op .no qa4 .loc (.op .no (.bld [(.mk 0 1 qa5), q3o, (.mk 2 1 q9)] [(.int .u8 (.ofNat 0)), (.int .i64 (.ofNat 0)), (.int .i64 (.ofNat 0))]) .loc q7u))))) .ret) (.seq (.rg (.op .no (.bin .eql 41 qs qa6) .loc q1i)) (.cond q26 (.seq (.rg (.op .no q2s .loc (.op .no q2q .loc (.op .no qa4 .loc (.op .no (.bld [(.mk 0 1 (.lit (.int .u8 (.ofNat 6)))), (.mk 1 1 q9), qa7] [(.int .u8 (.ofNat 0)), (.int .i64 (.ofNat 0)), (.int .i64 (.ofNat 0))]) .loc q7u))))) .ret) (.seq (.rg (.op .no (.bin .eql 41 qs q9g) .loc q60)) (.cond q28 (.seq (.rg (.op .no q2s .loc (.op .no q2q .loc (.op .no q2s .loc (.op .no q2q .loc (.op .no (.bld [(.mk 0 1 (.lit (.int .u8 (.ofNat 5)))), (.mk 1 1 q22), qa7] [(.int .u8 (.ofNat 0)), (.int .i64 (.ofNat 0)), (.int .i64 (.ofNat 0))]) .loc q7u)))))) .ret) .skip)))))))) (.seq (.rg (.op .no q2s .loc (.op .no q2q .loc (.op .no (.gen (.unOp UnOp.neg 3 (.tmp 30)) (rfC 4261455 [30, 29])) .loc (.op .no q2s .loc (.op .no q2q .loc (.op .no (.bld [(.mk 0 1 (.lit (.int .u8 (.ofNat 7)))), (.mk 1 1 q22), qa7] [(.int .u8 (.ofNat 0)), (.int .i64 (.ofNat 0)), (.int .i64 (.ofNat 0))]) .loc q7u))))))) .ret)))))
theorem cf55_ok : compF Go.Proofs.Tryz.prog xi55 = some cf55 := by kernel_rfl
noncomputable def xi63 := xiM 63 Go.Proofs.Tryz.f63 1048583
theorem xi63_ok : TabOK Go.Proofs.Tryz.prog [xi63] := tabOK1 Go.Proofs.Tryz.func63 (by kernel_rfl) (by kernel_rfl) rfl rfl
noncomputable def cf63 : FnC := (.mk 1048583 21 q2m (.seq (.rg (.op .no qa1 q6 q2n)) (.seq (.seq (.rg (.op .no q2p .loc (.op .no q2q .loc (.op .no (.bin .lss 41 qf qa3) .loc (.op .no qg .loc (.op q2r q2p .loc (.op q2t q2q .loc (.op q2u (.bin .gtr 41 qf qa5) .loc (.op .no q2w .loc (.op .no qg .loc (.op q2r q2s .loc (.op q2t q2q .loc (.op q2u qa8 .loc (.op .no q2w .loc (.op .no qg .loc (.op q2r q2s .loc (.op q2t q2q .loc (.op q2u qa9 .loc qaa)))))))))))))))))) q36) q38)))
theorem cf63_ok : compF Go.Proofs.Tryz.prog xi63 = some cf63 := by kernel_rfl
noncomputable def xi73 := xiM 73 Go.Proofs.Tryz.f73 2247
theorem xi73_ok : TabOK Go.Proofs.Tryz.prog [xi73] := tabOK1 Go.Proofs.Tryz.func73 (by kernel_rfl) (by kernel_rfl) rfl rfl
noncomputable def cf73 : FnC := (.mk 2247 16 qab (.seq (.rg qc) (.seq (.block 0 (.seq (.rg (.op .no q86 .loc (.op .no q45 .loc (.op .no q9w .loc q3c)))) (.cond qn qac (.seq (.rg (.op .no q86 .loc (.op .no q4u .loc (.op .no (.call (.lit (.clo 154 [])) [qf]) .loc (.op .no (.bin .gtr 3 q22 qf) .loc qq))))) (.cond qs (.seq (.rg (.op .no (.mv q4z) qb .fin)) .ret) .skip))))) qad)))
theorem cf73_ok : compF Go.Proofs.Tryz.prog xi73 = some cf73 := by kernel_rfl
noncomputable def xi74 := xiM 74 Go.Proofs.Tryz.f74 23
theorem xi74_ok : TabOK Go.Proofs.Tryz.prog [xi74] := tabOK1 Go.Proofs.Tryz.func74 (by kernel_rfl) (by kernel_rfl) rfl rfl
noncomputable def cf74 : FnC := (.mk 23 13 qab (.seq (.rg (.op .no q3u q8 qc)) (.seq (.rg (.op .no q45 .loc (.op .no qae .loc (.op .no (.bin .mul 3 (.lit (.int .i64 (.ofNat 355))) qf) .loc (.op .no q61 .loc (.op .no q2q .loc (.op .no q31 .loc (.op .no (.bin .add 3 qf q4k) .loc (.op .no (.bin .quo 3 qf (.lit (.int .i64 (.ofNat 226)))) .loc q10))))))))) .ret)))
theorem cf74_ok : compF Go.Proofs.Tryz.prog xi74 = some cf74 := by kernel_rfl
noncomputable def xi75 := xiM 75 Go.Proofs.Tryz.f75 3
theorem xi75_ok : TabOK Go.Proofs.Tryz.prog [xi75] := tabOK1 Go.Proofs.Tryz.func75 (by kernel_rfl) (by kernel_rfl) rfl rfl
noncomputable def cf75 : FnC := (.mk 3 23 (.one (.cell 7 true q4)) (.seq (.rg (.op .no q7 q4c .fin)) (.seq (.rg (.op .no (.bld [(.mk 0 1 q4n), (.mk 1 1 q2g)] [(.int .i64 (.ofNat 0)), (.int .i64 (.ofNat 0))]) .loc (.op .no (.call (.lit (.clo 10 [])) [qf]) .loc (.op .no qg .loc (.op .no qh .loc (.op .no qj .loc (.op .no q7 q6 (.op .no (.st 7 qd qi) .non q6l)))))))) (.seq (.rg (.op .no q3a .loc (.op .no (.bld [(.mk 0 1 qa3), (.mk 1 1 q46)] [(.int .u8 (.ofNat 0)), (.int .i64 (.ofNat 0))]) .loc (.op .no (.bld [q7t, (.mk 2 1 qa3), (.mk 3 1 q2v)] [(.int .u8 (.ofNat 0)), (.int .i64 (.ofNat 0)), (.int .u8 (.ofNat 0)), (.bool false)]) .loc qaf)))) (.seq (.rg (.op .no q3a .loc (.op .no (.bld [(.mk 0 1 qa3), (.mk 1 1 q2g)] [(.int .u8 (.ofNat 0)), (.int .i64 (.ofNat 0))]) .loc (.op .no (.bld [q7t, (.mk 3 1 q2v)] [(.int .u8 (.ofNat 0)), (.int .i64 (.ofNat 0)), (.int .u8 (.ofNat 0)), (.bool false)]) .loc qaf)))) (.seq (.rg (.op .no q3a .loc (.op .no (.st 7 q4 qf) .non .fin))) .ret))))))
theorem cf75_ok : compF Go.Proofs.Tryz.prog xi75 = some cf75 := by kernel_rfl
noncomputable def xi76 := xiM 76 Go.Proofs.Tryz.f76 67839
theorem xi76_ok : TabOK Go.Proofs.Tryz.prog [xi76] := tabOK1 Go.Proofs.Tryz.func76 (by kernel_rfl) (by kernel_rfl) rfl rfl
noncomputable def cf76 : FnC := (.mk 67839 24 q7v (.seq (.rg (.op .no q39 q8 (.op .no (.box 69 qd) qb qag))) (.seq (.seq q6a (.seq q49 (.cond q28 qai .skip))) (.seq (.seq (.rg (.op .no qaj .loc (.op .no q41 .loc q1i))) qak) (.seq (.rgd (.op .no (.soft (.fadr 6 q0)) .loc (.op .no q6z .loc (.op .no (.hard (.call (.lit (.clo 155 [])) [qf])) .loc (.op .no qal .loc (.op .no (.softw q2q 1 (.load 3 (.tmp 21)) (rfR 67839 [21, 20, 19, 18] [21])) .loc (.op .no (.soft q31) .loc qam)))))) 0) .ret)))))
theorem cf76_ok : compF Go.Proofs.Tryz.prog xi76 = some cf76 := by kernel_rfl
noncomputable def xi77 := xiM 77 Go.Proofs.Tryz.f77 4035186687
theorem xi77_ok : TabOK Go.Proofs.Tryz.prog [xi77] := tabOK1 Go.Proofs.Tryz.func77 (by kernel_rfl) (by kernel_rfl) rfl rfl
noncomputable def cf77 : FnC := (.mk 4035186687 52 qao (.seq (.rg (.op .no q39 q8 (.op .no (.box 69 qd) qb (.op .no qa qm (.op .no qa qp q8r))))) (.seq (.rg (.op .no q68 .loc (.op .no q54 .loc (.op .no qg .loc (.op .no qh .loc (.op .no qj .loc (.op .no q17 q1h q47))))))) (.seq (.seq (.rg (.op .no q1f .loc (.op .no qu q1j .fin))) (.cond q1k (.seq (.rg (.op .no q1f .loc qap)) .ret) .skip)) (.seq (.seq (.rg (.op .no qaj .loc (.op .no q41 .loc q60))) (.seq qar (.cond q1q (.seq (.rg (.op .no q29 .loc qap)) .ret) .skip))) (.seq (.rg (.op .no q27 .loc (.op .no q1g .loc (.op .no (.gen (.makeSlice 50 (.tmp 26) (.tmp 26)) (rfC 4035186687 [26, 25])) .loc q4l)))) (.seq (.seq (.rg (.op .no q27 q1m qas)) (.block 0 (.loop (.seq q8l (.seq (.cond q5j .skip q1v) (.seq (.block 1 (.seq (.rg (.op .no q5g .loc (.op .no (.ias 2 q1p q5f) .loc (.op .no q5o .loc (.op .no (.alloc 83 [(.int .i64 (.ofNat 0)), (.int .i64 (.ofNat 0))]) q1b (.op .no q23 qv (.op .no (.st 2 q1d qf) .non .fin))))))) (.seq (.rg (.op .no q4s .loc (.op .no q4w .loc (.op .no qaj .loc (.op .no (.fadr 1 q1d) .loc (.op .no q2q .loc (.op .no (.call (.lit (.clo 74 [])) [q22, qf]) .loc q63))))))) (.rg (.op .no qt .loc (.op .no q4s .loc (.op .no q4w .loc (.op .no qat .loc (.op .no q2q .loc (.op .no (.bin .add 3 q2e qf) .loc qq)))))))))) q8o)))))) (.seq (.rg (.op .no q4s .loc (.op .no (.call (.lit (.clo 156 [])) [qf, q9]) .loc (.op .no qt .loc qau)))) .ret))))))))
theorem cf77_ok : compF Go.Proofs.Tryz.prog xi77 = some cf77 := by kernel_rfl
noncomputable def xi78 := xiM 78 Go.Proofs.Tryz.f78 2055
theorem xi78_ok : TabOK Go.Proofs.Tryz.prog [xi78] := tabOK1 Go.Proofs.Tryz.func78 (by kernel_rfl) (by kernel_rfl) rfl rfl
noncomputable def cf78 : FnC := (.mk 2055 12 q2m (.seq (.rg (.op .no (.box 45 q4) q6 q2n)) (.seq (.seq (.rg (.op .no q2p .loc (.op .no q5o .loc (.op .no qa2 .loc (.op .no qu .loc (.op .no qg .loc (.op q2r qav .loc (.op q2t q2q .loc (.op q2u (.bin .gtr 5 qf qa3) .loc qaa))))))))) q36) q38)))
theorem cf78_ok : compF Go.Proofs.Tryz.prog xi78 = some cf78 := by kernel_rfl
noncomputable def xi79 := xiM 79 Go.Proofs.Tryz.f79 5071840341233518085443831578623
theorem xi79_ok : TabOK Go.Proofs.Tryz.prog [xi79] := tabOK1 Go.Proofs.Tryz.func79 (by kernel_rfl) (by kernel_rfl) rfl rfl
noncomputable def cf79 : FnC := (.mk 5071840341233518085443831578623 110 qao (.seq (.rg (.op .no q39 q8 (.op .no (.box 43 qd) qb qaw))) (.seq (.rg (.op .no q61 .loc (.op .no q1z .loc (.op .no q6x .loc (.op .no q1z .loc (.op .no (.call q14 [q22, qf]) .loc qax)))))) (.seq (.seq (.rg (.op .no q29 .loc qay)) (.cond q5j qb0 .skip)) (.seq (.rg (.op .no q27 .loc (.op .no q1g .loc (.op .no (.gen (.makeSlice 50 (.tmp 32) (.tmp 32)) (rfC 5071840341233518085443831578623 [32, 31])) .loc q4l)))) (.seq (.seq (.rg (.op .no q27 q5c qb1)) (.block 0 (.loop (.seq qb2 (.seq qb3 (.seq (.block 1 (.seq (.rg (.op .no (.mv q52) .loc (.op .no (.ias 3 q5k q52) .loc (.op .no q1z .loc (.op .no q20 q1b (.op .no q23 qv (.op .no (.st 3 q1d qf) .non .fin))))))) (.seq (.rg (.op .no q4s .loc (.op .no q4w .loc (.op .no qaj .loc (.op .no q6s .loc (.op .no (.call (.lit (.clo 114 [])) [qi, qf]) .loc (.op .no qg .loc (.op .no qh .loc (.op .no qj .loc (.op .no (.ias 1 qb4 q33) .loc (.op .no qb5 .non (.op .no q17 q24 .fin)))))))))))) (.seq (.rg (.op .no q29 .loc (.op .no qu q6f .fin))) (.cond q6g qb0 .skip))))) qb6)))))) (.seq (.rg (.op .no q61 .loc (.op .no q7h .loc (.op .no q5o .loc (.op .no (.call (.lit (.clo 104 [])) [qf]) .loc (.op .no qg .loc (.op .no qh .loc (.op .no qj .loc (.op .no q17 q1j q60))))))))) (.seq (.seq (.rg (.op .no q29 .loc (.op .no qu q6p .fin))) (.cond q6q qb0 .skip)) (.seq (.rg (.op .no q5x q1l .fin)) (.seq (.seq (.rg (.op .no q5z q6t (.op .no (.len q6u) q71 (.op .no qa q75 .fin)))) (.block 2 (.loop (.seq (.rg (.op .no (.bin .lss 3 q76 q72) q79 .fin)) (.seq (.cond q7a .skip q8m) (.seq (.block 3 (.seq (.rg (.op .no (.ias 2 q6u q76) .loc (.op .no q5o .loc (.op .no qb7 q1m (.op .no (.st 2 q1p qf) .non .fin))))) (.seq (.rg (.op .no q61 .loc (.op .no q7h .loc (.op .no q5o .loc (.op .no (.fadr 0 q1p) .loc (.op .no q2q .loc (.op .no (.fadr 1 q1p) .loc (.op .no q2q .loc (.op .no q7i .loc (.op .no qg .loc (.op .no qh .loc (.op .no qj .loc (.op .no q17 q1s q6l))))))))))))) (.seq (.seq (.rgd (.op .no q6y .loc (.op .no (.soft (.fadr 0 q1p)) .loc (.op .no q6z .loc (.op .no qb9 .loc (.op .no q6z .loc (.op .no q6y .loc (.op .no q6r .loc (.op .no qba .loc (.op .no q6z .loc (.op .no (.soft (.bin .eql 3 q2e qf)) q7c .fin)))))))))) 0) (.cond q7d (.exit 3) .skip)) (.seq (.rg (.op .no q61 .loc (.op .no q1z .loc (.op .no (.fadr 0 q1p) .loc (.op .no q2q .loc (.op .no (.fadr 1 q1p) .loc (.op .no q2q .loc (.op .no (.call (.lit (.clo 105 [])) [q2e, q22, qf]) .loc (.op .no qg .loc (.op .no qh .loc (.op .no qj .loc (.op .no q17 q56 q6l)))))))))))) (.seq (.rg (.op .no q5g .loc (.op .no qbb qbc .fin))) (.cond qbd (.rg (.op .no q5i .loc (.op .no (.ld 2 true q1p) .loc (.op .no (.bsl 107 1 2 [qf]) .loc (.op .no (.app 154 107 2 16 q22 qf) .loc q3q))))) .skip))))))) (.rg (.op .no (.bin .add 3 q76 q2g) .loc (.op .no qg q75 .fin))))))))) (.seq (.rg (.op .no q5i .loc (.op .no q4s .loc qau))) .ret)))))))))))
theorem cf79_ok : compF Go.Proofs.Tryz.prog xi79 = some cf79 := by kernel_rfl
noncomputable def xi80 := xiM 80 Go.Proofs.Tryz.f80 34392259323
theorem xi80_ok : TabOK Go.Proofs.Tryz.prog [xi80] := tabOK1 Go.Proofs.Tryz.func80 (by kernel_rfl) (by kernel_rfl) rfl rfl
noncomputable def cf80 : FnC := (.mk 34392259323 52 (.many [q3, q3x, q66]) (.seq (.rg (.op .no (.box 43 qd) q8 (.op .no q5x qb (.op .no q5x qm q67)))) (.seq (.rg (.op .no (.alloc 257 [(.con (.slice Option.none 0 0)), (.con (.slice Option.none 0 0))]) q19 .fin)) (.seq (.seq (.rg (.op .no q40 .loc (.op .no q6j .loc (.op .no qg .loc (.op .no qh .loc (.op .no qj .loc (.op .no q6k .loc (.op .no q74 .non q82)))))))) (.seq qbe (.cond q1d qbg .skip))) (.seq (.seq (.rg (.op .no q86 q1j q1n)) (.block 0 (.loop (.seq q1t (.seq q1w (.seq (.block 1 (.seq (.rg (.op .no (.ias 4 q1k q1p) .loc (.op .no q89 .loc (.op .no q8a q24 (.op .no (.st 4 q28 qf) .non .fin))))) (.seq (.rg (.op .no q40 .loc (.op .no (.fadr 0 q28) .loc (.op .no q1z .loc (.op .no (.call (.lit (.clo 114 [])) [q22, qf]) .loc (.op .no qg .loc (.op .no qh .loc (.op .no qj .loc (.op .no q17 q21 q6d))))))))) (.seq (.seq (.rg (.op .no q4w .loc (.op .no qu q56 .fin))) (.cond q5f qbg .skip)) (.rgd (.op .no (.soft (.ld 4 true q28)) .loc (.op .no (.hard q8j) .loc (.op .no q6y .loc (.op .no (.softw (.iaa 2 1 q1e qf) 1 (.indexAddr 257 (.tmp 7) (.tmp 37)) (rfR 34392259323 [37, 41, 40] [7, 37])) .loc (.op .no (.softw q2q 1 (.load 29 (.tmp 38)) (rfR 34392259323 [38, 37, 41, 40] [38])) .loc (.op .no (.bsl 92 1 4 [q2l] 0) .loc (.op .no (.hard qbh) .loc (.op .no q6y .loc (.op .no (.soft (.iaa 2 1 q1e qf)) .loc (.op .no (.hard qb5) .non .fin)))))))))) 2))))) q2i)))))) (.seq (.rgd (.op .no (.soft (.iaa 2 1 q1e q9)) .loc (.op .no q6z .loc (.op .no (.hard q8p) .loc (.op .no (.softw (.iaa 2 1 q1e q2g) 1 (.indexAddr 257 (.tmp 7) (.const (.int .i64 (.ofNat 1)))) (rfR 34392259323 [48, 47, 46] [7])) .loc (.op .no (.softw q2q 1 (.load 29 (.tmp 49)) (rfR 34392259323 [49, 48, 47, 46] [49])) .loc (.op .no (.hard q8p) .loc (.op .no (.soft (.mv q2l)) qb qam))))))) 0) .ret))))))
theorem cf80_ok : compF Go.Proofs.Tryz.prog xi80 = some cf80 := by kernel_rfl
noncomputable def xi81 := xiM 81 Go.Proofs.Tryz.f81 68751067131
theorem xi81_ok : TabOK Go.Proofs.Tryz.prog [xi81] := tabOK1 Go.Proofs.Tryz.func81 (by kernel_rfl) (by kernel_rfl) rfl rfl
noncomputable def cf81 : FnC := (.mk 68751067131 49 q3y (.seq (.rg (.op .no q7x q8 (.op .no q5x qb q3z))) (.seq (.seq (.rg (.op .no q7z .loc (.op .no qbi .loc (.op .no qu .loc (.op .no qg .loc (.op q2r q86 .loc (.op q2t (.call (.lit (.clo 157 [])) [qf, (.lit (.clo 158 []))]) .loc (.op .no q4r qv .fin)))))))) (.cond qy (.seq (.rg (.op .no q5x qb (.op .no q34 qm .fin))) .ret) .skip)) (.seq (.rg (.op .no q86 .loc (.op .no q1g .loc (.op .no (.gen (.makeSlice 29 (.tmp 19) (.tmp 19)) (rfC 68751067131 [19, 18])) .loc qq)))) (.seq (.seq qbj (.block 0 (.loop (.seq q3j (.seq q3k (.seq (.block 1 (.seq (.rg (.op .no q5i .loc (.op .no (.ias 4 q1d q1q) .loc qbk))) (.seq (.rg (.op .no q7z .loc (.op .no q3n .loc (.op .no q1z .loc (.op .no (.call (.lit (.clo 160 [])) [q22, qf]) .loc (.op .no qg .loc (.op .no qh .loc (.op .no qj .loc (.op .no q20 q24 (.op .no qbl .non q4l)))))))))) (.seq (.seq (.rg (.op .no q4s .loc (.op .no qu q1s .fin))) (.cond q1u (.seq (.rg (.op .no q5x qb (.op .no (.mv q4z) qm .fin))) .ret) .skip)) (.rg (.op .no qt .loc (.op .no q1f .loc (.op .no qbm .loc (.op .no (.fadr 3 q26) .loc (.op .no q2q .loc (.op .no q2b .loc q8n))))))))))) q3r)))))) (.seq (.rg (.op .no qt .loc (.op .no (.call (.lit (.clo 161 [])) [qf, (.lit (.clo 162 []))]) .loc .fin))) (.seq (.rg (.op .no qt .loc q4a)) .ret)))))))
theorem cf81_ok : compF Go.Proofs.Tryz.prog xi81 = some cf81 := by kernel_rfl
noncomputable def xi82 := xiM 82 Go.Proofs.Tryz.f82 7741
theorem xi82_ok : TabOK Go.Proofs.Tryz.prog [xi82] := tabOK1 Go.Proofs.Tryz.func82 (by kernel_rfl) (by kernel_rfl) rfl rfl
noncomputable def cf82 : FnC := (.mk 7741 29 q9j (.seq qbn (.seq (.rg (.op .no q86 .loc (.op .no q1g .loc (.op .no (.gen (.makeSlice 29 (.tmp 7) (.tmp 7)) (rfC 7741 [7, 6])) .loc q3f)))) (.seq (.seq qbo (.block 0 (.loop (.seq q93 (.seq q94 (.seq (.block 1 (.seq (.rg (.op .no q27 .loc (.op .no (.ias 4 qs q26) .loc (.op .no q89 .loc (.op .no q8a qm (.op .no q23 qb qbp)))))) (.seq (.rg (.op .no q4u .loc (.op .no q4q .loc (.op .no (.ld 4 true qn) .loc (.op .no q8j .loc (.op .no (.ias 4 q2l q22) .loc q2f)))))) (.rg (.op .no q4u .loc (.op .no q4q .loc (.op .no q8e .loc (.op .no (.fadr 3 qf) .loc (.op .no q2q .loc (.op .no (.call (.lit (.clo 123 [])) [qf]) .loc .fin)))))))))) q9d)))))) q9q))))
theorem cf82_ok : compF Go.Proofs.Tryz.prog xi82 = some cf82 := by kernel_rfl
noncomputable def xi83 := xiM 83 Go.Proofs.Tryz.f83 504369023
theorem xi83_ok : TabOK Go.Proofs.Tryz.prog [xi83] := tabOK1 Go.Proofs.Tryz.func83 (by kernel_rfl) (by kernel_rfl) rfl rfl
noncomputable def cf83 : FnC := (.mk 504369023 40 q7v (.seq q7y (.seq qbq (.seq (.seq qbe (.cond q1d (.seq (.rg (.op .no q27 .loc (.op .no q5x qm qq))) .ret) .skip)) (.seq (.rg (.op .no q1f .loc (.op .no q1g .loc (.op .no (.gen (.makeSlice 98 (.tmp 23) (.tmp 23)) (rfC 504369023 [23, 22])) .loc q60)))) (.seq (.seq q1o (.block 0 (.loop (.seq q1t (.seq q1w (.seq (.block 1 (.seq (.rg (.op .no q1x .loc (.op .no q1y .loc (.op .no q1z .loc (.op .no q6k qv (.op .no q23 q21 qbr)))))) (.rg (.op .no q29 .loc (.op .no q4s .loc (.op .no (.ld 3 true qy) .loc (.op .no (.call (.lit (.clo 163 [])) [qf]) .loc (.op .no q78 .loc (.op .no (.ias 1 q2e q2l) .loc q62))))))))) q2i)))))) (.seq (.rg (.op .no q29 .loc qbs)) .ret)))))))
theorem cf83_ok : compF Go.Proofs.Tryz.prog xi83 = some cf83 := by kernel_rfl
noncomputable def xi84 := xiM 84 Go.Proofs.Tryz.f84 983759
theorem xi84_ok : TabOK Go.Proofs.Tryz.prog [xi84] := tabOK1 Go.Proofs.Tryz.func84 (by kernel_rfl) (by kernel_rfl) rfl rfl
noncomputable def cf84 : FnC := (.mk 983759 46 (.one (.cell 3 true qn)) (.seq (.rg (.op .no q7w qb (.op .no qk qm .fin))) (.seq (.rgd (.op .no q70 .loc (.op .no q6z .loc (.op .no (.hard qbt) .loc (.op .no qal .loc (.op .no (.softw q5o 1 (.load 23 (.tmp 10)) (rfR 983759 [10, 14, 13, 12] [10])) .loc (.op .no (.soft (.bld [q7t, (.mk 2 1 q22)] [(.int .i64 (.ofNat 0)), (.int .i64 (.ofNat 0)), (.con (.slice Option.none 0 0))])) .loc (.op .no (.alloc 26 [(.int .i64 (.ofNat 0)), (.int .i64 (.ofNat 0)), (.con (.slice Option.none 0 0))] 0) qp (.op .no (.hard (.st 3 qs qf)) .non .fin)))))))) 2) (.seq (.seq (.rg (.op .no q45 q1h qbu)) (.block 0 (.loop (.seq qbv (.seq qbw (.seq (.block 1 (.seq (.rg (.op .no (.ias 2 q26 q25) .loc (.op .no q5o .loc (.op .no qb7 q19 (.op .no (.st 2 q1e qf) .non .fin))))) (.rgd (.op .no qbx .loc (.op .no (.soft (.fadr 0 q1e)) .loc (.op .no q6z .loc (.op .no qby .loc (.op .no (.soft qbz) .loc (.op .no (.softw q2q 1 (.load 24 (.tmp 22)) (rfR 983759 [22, 31, 30, 29, 28] [22])) .loc (.op .no (.soft (.fadr 0 q1e)) .loc (.op .no (.softw q2q 1 (.load 3 (.tmp 24)) (rfR 983759 [24, 23, 22, 31, 30, 29, 28] [24])) .loc (.op .no (.soft (.fadr 1 q1e)) .loc (.op .no (.softw q2q 1 (.load 5 (.tmp 26)) (rfR 983759 [26, 25, 24, 23, 22, 31, 30, 29, 28] [26])) .loc (.op .no (.soft (.bld [(.mk 0 1 q22), q3o, (.mk 2 1 q33)] [(.int .i64 (.ofNat 0)), (.int .u8 (.ofNat 0)), (.int .u8 (.ofNat 0))])) .loc (.op .no (.bsl 62 1 3 [qf] 0) .loc (.op .no (.hard (.app 24 62 3 16 q33 qf)) .loc (.op .no (.soft qbz) .loc (.op .no (.hard (.st 1 qf qi)) .non .fin))))))))))))))) 2))) qc0)))))) (.seq (.rg (.op .no qbz .loc (.op .no q2q .loc (.op .no (.call (.lit (.clo 119 [])) [qf, (.lit (.clo 164 []))]) .loc .fin)))) (.seq (.rg (.op .no qbz .loc (.op .no q2q .loc (.op .no qbt .loc (.op .no (.call (.lit (.clo 121 [])) [qf]) .loc (.op .no qbz .loc q62)))))) (.seq (.rg (.op .no (.ld 3 true qs) .loc q97)) .ret)))))))
theorem cf84_ok : compF Go.Proofs.Tryz.prog xi84 = some cf84 := by kernel_rfl
noncomputable def xi85 := xiM 85 Go.Proofs.Tryz.f85 2071
theorem xi85_ok : TabOK Go.Proofs.Tryz.prog [xi85] := tabOK1 Go.Proofs.Tryz.func85 (by kernel_rfl) (by kernel_rfl) rfl rfl
noncomputable def cf85 : FnC := (.mk 2071 12 qab (.seq (.rg (.op .no qc1 qb .fin)) (.seq (.seq (.rgd (.op .no (.soft qc2) .loc (.op .no qc3 .loc (.op .no qba .loc (.op .no q6z .loc (.op .no (.soft q6x) .loc (.op .no q6z .loc (.op .no (.soft (.bin .eql 4 q22 qf)) qm .fin))))))) 0) (.cond qn (.seq (.rg (.op .no (.mv qa6) qb .fin)) .ret) .skip)) (.seq (.rg (.op .no (.mv qa3) qb .fin)) .ret))))
theorem cf85_ok : compF Go.Proofs.Tryz.prog xi85 = some cf85 := by kernel_rfl
noncomputable def xi86 := xiM 86 Go.Proofs.Tryz.f86 2113395
theorem xi86_ok : TabOK Go.Proofs.Tryz.prog [xi86] := tabOK1 Go.Proofs.Tryz.func86 (by kernel_rfl) (by kernel_rfl) rfl rfl
noncomputable def cf86 : FnC := (.mk 2113395 27 (.many [(.cell 3 true q0), q3, q3x]) (.seq (.rg (.op .no q20 q8 (.op .no qa qb q3z))) (.seq (.seq (.rg (.op .no q86 q1h qbu)) (.block 0 (.loop (.seq qbv (.seq qbw (.seq (.block 1 (.seq (.rg (.op .no (.ias 4 q26 q25) .loc q8b)) (.seq (.rg (.op .no (.fadr 3 qs) .loc (.op .no q2q .loc (.op .no q45 .loc (.op .no qc4 .loc q47))))) (.seq (.rg (.op .no q1f .loc (.op .no qc5 q1b .fin))) (.cond q1d (.seq (.rg (.op .no (.fadr 0 qs) .loc (.op .no q1z .loc (.op .no q1f .loc (.op .no (.st 3 q0 qi) .non q4a))))) .ret) .skip))))) qc0)))))) (.seq (.rg (.op .no qc6 .loc (.op .no (.st 3 q0 qf) .non (.op .no qa qb (.op .no q6h qm .fin))))) .ret))))
theorem cf86_ok : compF Go.Proofs.Tryz.prog xi86 = some cf86 := by kernel_rfl
noncomputable def xi87 := xiM 87 Go.Proofs.Tryz.f87 134481871
theorem xi87_ok : TabOK Go.Proofs.Tryz.prog [xi87] := tabOK1 Go.Proofs.Tryz.func87 (by kernel_rfl) (by kernel_rfl) rfl rfl
noncomputable def cf87 : FnC := (.mk 134481871 33 q7v (.seq (.rg (.op .no q5 qb qag)) (.seq (.rg (.op .no qaj .loc (.op .no q45 .loc (.op .no qc7 .loc qc8)))) (.seq qak (.seq (.rg (.op .no qc9 .loc (.op .no q4u .loc (.op .no qca .loc (.op .no qg .loc (.op .no qh .loc (.op .no qj .loc (.op .no q20 q24 (.op .no qbl .non q1i))))))))) (.seq (.seq (.rg (.op .no q27 .loc qw)) (.cond qy qcb .skip)) (.seq (.rg (.op .no qaj .loc (.op .no qbm .loc (.op .no (.call (.lit (.clo 168 [])) [qi, qf]) .loc q4h)))) .ret)))))))
theorem cf87_ok : compF Go.Proofs.Tryz.prog xi87 = some cf87 := by kernel_rfl
noncomputable def xi88 := xiM 88 Go.Proofs.Tryz.f88 9445021196373681520639
theorem xi88_ok : TabOK Go.Proofs.Tryz.prog [xi88] := tabOK1 Go.Proofs.Tryz.func88 (by kernel_rfl) (by kernel_rfl) rfl rfl
noncomputable def cf88 : FnC := (.mk 9445021196373681520639 78 qao (.seq (.rg (.op .no q7w q8 (.op .no q7x qb qaw))) (.seq (.seq (.rg (.op .no q7z .loc (.op .no qcc .loc q1i))) (.seq (.rg (.op .no q27 .loc qcd)) (.cond q1p (.seq (.rg (.op .no q27 .loc qaz)) .ret) .skip))) (.seq (.seq (.rg (.op .no q80 .loc (.op .no qbi .loc (.op .no qu q1s .fin)))) (.cond q1u (.seq (.rg (.op .no q5x qm (.op .no q5x qp (.op .no q34 q19 .fin)))) .ret) .skip)) (.seq (.rg (.op .no q7z .loc (.op .no (.call (.lit (.clo 170 [])) [qf]) .loc q4m))) (.seq (.seq (.rg (.op .no q4s .loc (.op .no qu q56 .fin))) (.cond q5f qce .skip)) (.seq (.rg (.op .no q29 .loc (.op .no q1g .loc (.op .no (.gen (.makeSlice 87 (.tmp 32) (.tmp 32)) (rfC 9445021196373681520639 [32, 31])) .loc q6d)))) (.seq (.seq (.rg (.op .no q29 q5a qcf)) (.block 0 (.loop (.seq qcg (.seq (.cond q52 .skip q1v) (.seq (.block 1 (.seq (.rg (.op .no (.mv q5h) .loc (.op .no (.ias 3 q5j q5h) .loc (.op .no q1z .loc (.op .no q6k q1j (.op .no q23 q1b (.op .no (.st 3 q1k qf) .non .fin))))))) (.seq (.rg (.op .no q61 .loc (.op .no q5o .loc (.op .no q4t .loc (.op .no qc7 .loc (.op .no qg .loc (.op .no qh .loc (.op .no qj .loc (.op .no q20 q1l (.op .no (.st 3 q1q qi) .non q6l)))))))))) (.seq (.seq (.rg (.op .no q29 .loc (.op .no q4t .loc (.op .no (.ld 3 true q1k) .loc (.op .no q80 .loc (.op .no q73 .loc (.op .no qg .loc (.op .no qh .loc (.op .no qj .loc (.op .no (.ias 3 qb4 q33) .loc (.op .no q74 .non (.op .no q17 q21 .fin)))))))))))) (.seq (.rg (.op .no q4s .loc (.op .no qu q5m .fin))) (.cond q5n qce .skip))) (.seq (.rgd (.op .no qch .loc (.op .no (.soft q4t) .loc (.op .no qcj .loc (.op .no qck .loc (.op .no qcl .loc (.op .no qcm .loc (.op .no (.soft q4w) .loc (.op .no (.soft q4t) .loc (.op .no (.soft q23) .loc (.op .no q16 .loc (.op .no (.soft (.ias 3 q2l q22)) .loc (.op .no (.hard (.st 3 qf qi)) .non (.op .no (.soft (.ext (.s .z) q22)) .loc (.op .no q15 q21 .fin)))))))))))))) 0) (.seq (.rg (.op .no q4s .loc (.op .no qu q6f .fin))) (.cond q6g qce .skip))))))) qcn)))))) (.seq (.rg (.op .no q29 .loc (.op .no q4w .loc qau))) .ret)))))))))
theorem cf88_ok : compF Go.Proofs.Tryz.prog xi88 = some cf88 := by kernel_rfl
noncomputable def xi89 := xiM 89 Go.Proofs.Tryz.f89 504373101
theorem xi89_ok : TabOK Go.Proofs.Tryz.prog [xi89] := tabOK1 Go.Proofs.Tryz.func89 (by kernel_rfl) (by kernel_rfl) rfl rfl
noncomputable def cf89 : FnC := (.mk 504373101 36 q9j (.seq qbn (.seq q37 (.seq (.seq (.rg (.op .no q86 q19 (.op .no (.len q1e) q1h (.op .no qa q24 .fin)))) (.block 0 (.loop (.seq (.rg (.op .no (.bin .lss 3 q28 q26) q21 .fin)) (.seq qco (.seq (.block 1 (.seq (.rg (.op .no (.ias 1 q1e q28) .loc q9m)) (.seq (.rg (.op .no q4u .loc (.op .no q4q .loc (.op .no q1g .loc (.op .no qcp .loc q3f))))) (.seq (.rg (.op .no q4u .loc (.op .no qcq qv .fin))) (.cond qy (.rg (.op .no (.gen (.makeInterface 9 (.const (.string (ByteArray.mk (Array.mk [(UInt8.ofNat 108), (UInt8.ofNat 101), (UInt8.ofNat 110), (UInt8.ofNat 32), (UInt8.ofNat 111), (UInt8.ofNat 117), (UInt8.ofNat 116), (UInt8.ofNat 32), (UInt8.ofNat 111), (UInt8.ofNat 102), (UInt8.ofNat 32), (UInt8.ofNat 114), (UInt8.ofNat 97), (UInt8.ofNat 110), (UInt8.ofNat 103), (UInt8.ofNat 101)]))))) (rfC 504373101 [])) .loc (.op .no (.gen (.panic (.tmp 21)) (rfC 504373101 [21])) .non .fin))) .skip))))) (.rg (.op .no (.bin .add 3 q28 q2g) .loc q60)))))))) (.seq (.rg (.op .no q4u .loc (.op .no (.call (.lit (.clo 171 [])) [q2k, qf]) .loc q3c))) (.seq (.seq qbj (.block 2 (.loop (.seq q3j (.seq (.cond q1p .skip q8m) (.seq (.block 3 (.seq (.rg (.op .no (.ias 1 q1d q1q) .loc (.op .no q2q .loc qq))) (.rg (.op .no q3d .loc (.op .no qt .loc (.op .no qbh .loc q3c)))))) q3r)))))) (.seq (.rg (.op .no q3d .loc q9o)) .ret)))))))
theorem cf89_ok : compF Go.Proofs.Tryz.prog xi89 = some cf89 := by kernel_rfl
noncomputable def xi90 := xiM 90 Go.Proofs.Tryz.f90 7
theorem xi90_ok : TabOK Go.Proofs.Tryz.prog [xi90] := tabOK1 Go.Proofs.Tryz.func90 (by kernel_rfl) (by kernel_rfl) rfl rfl
noncomputable def cf90 : FnC := (.mk 7 10 (.one (.cell 4 true q0)) (.seq (.rg (.op .no (.box 92 q4) q6 (.op .no q8a q8 .fin))) (.seq (.rgd (.op .no (.soft (.fadr 3 qd)) .loc (.op .no q6z .loc (.op .no (.hard qcr) .loc (.op .no (.hard qcs) .loc (.op .no (.soft q2p) .loc (.op .no (.softw q1z 2 (.load 59 (.tmp 3)) (rfR 7 [3, 8, 7, 6, 5] [3])) .loc (.op .no (.soft (.bld [(.mk 0 3 qf), (.mk 3 1 q22)] [(.int .i64 (.ofNat 0)), (.int .i64 (.ofNat 0)), (.int .u8 (.ofNat 0)), (.con (.slice Option.none 0 0))])) .loc (.op .no (.hard (.st 4 q0 qf)) .non .fin)))))))) 0) .ret)))
theorem cf90_ok : compF Go.Proofs.Tryz.prog xi90 = some cf90 := by kernel_rfl
noncomputable def xi91 := xiM 91 Go.Proofs.Tryz.f91 19
theorem xi91_ok : TabOK Go.Proofs.Tryz.prog [xi91] := tabOK1 Go.Proofs.Tryz.func91 (by kernel_rfl) (by kernel_rfl) rfl rfl
noncomputable def cf91 : FnC := (.mk 19 14 q90 (.seq qct (.rg (.op .no q86 .loc (.op .no q4u .loc (.op .no q4u .loc (.op .no qcu .loc (.op .no qcv .loc (.op .no q45 .loc (.op .no (.call qcw [q2d, q9, q2e, qi, qf]) .loc .fin))))))))))
theorem cf91_ok : compF Go.Proofs.Tryz.prog xi91 = some cf91 := by kernel_rfl
noncomputable def xi92 := xiM 92 Go.Proofs.Tryz.f92 31
theorem xi92_ok : TabOK Go.Proofs.Tryz.prog [xi92] := tabOK1 Go.Proofs.Tryz.func92 (by kernel_rfl) (by kernel_rfl) rfl rfl
noncomputable def cf92 : FnC := (.mk 31 10 qcx (.seq (.rg (.op .no (.box 92 q4) q8 (.op .no (.box 92 qd) qb q3z))) (.seq (.rg (.op .no q61 .loc (.op .no q1z .loc (.op .no q6c .loc (.op .no q1z .loc (.op .no qcy .loc q3c)))))) .ret)))
theorem cf92_ok : compF Go.Proofs.Tryz.prog xi92 = some cf92 := by kernel_rfl
noncomputable def xi93 := xiM 93 Go.Proofs.Tryz.f93 31
theorem xi93_ok : TabOK Go.Proofs.Tryz.prog [xi93] := tabOK1 Go.Proofs.Tryz.func93 (by kernel_rfl) (by kernel_rfl) rfl rfl
noncomputable def cf93 : FnC := (.mk 31 24 qcx (.seq (.rg (.op .no (.box 59 q4) q8 (.op .no qcz qb q3z))) (.seq (.rg (.op .no qd0 .loc (.op .no q2q .loc (.op .no qd1 .loc (.op .no q2q .loc (.op .no qd2 .loc (.op .no q61 .loc (.op .no q2q .loc (.op .no q6c .loc (.op .no q2q .loc (.op .no qd2 .loc (.op .no (.fadr 2 q0) .loc (.op .no q2q .loc (.op .no (.gen (.convert 5 3 (.tmp 16)) (rfC 31 [16, 15, 14, 13, 12, 11, 10, 9, 8, 7, 6, 5])) .loc (.op .no q6n .loc (.op .no q2q .loc (.op .no (.gen (.convert 5 3 (.tmp 19)) (rfC 31 [19, 18, 17, 16, 15, 14, 13, 12, 11, 10, 9, 8, 7, 6, 5])) .loc (.op .no qd3 .loc (.op .no (.bsl 46 3 2 [qd4, qb4, qf]) .loc (.op .no (.call (.lit (.clo 175 [])) [qf]) .loc q3c)))))))))))))))))))) .ret)))
theorem cf93_ok : compF Go.Proofs.Tryz.prog xi93 = some cf93 := by kernel_rfl
noncomputable def xi94 := xiM 94 Go.Proofs.Tryz.f94 5
theorem xi94_ok : TabOK Go.Proofs.Tryz.prog [xi94] := tabOK1 Go.Proofs.Tryz.func94 (by kernel_rfl) (by kernel_rfl) rfl rfl
noncomputable def cf94 : FnC := (.mk 5 9 q9j (.seq qbn (.seq (.rg (.op .no q86 .loc (.op .no q86 .loc (.op .no q1g .loc (.op .no q86 .loc (.op .no q1g .loc (.op .no (.gen (.slice 29 (.tmp 3) Option.none (Option.some (.tmp 5)) (Option.some (.tmp 7))) (rfC 5 [7, 6, 5, 4, 3])) .loc q9o))))))) .ret)))
theorem cf94_ok : compF Go.Proofs.Tryz.prog xi94 = some cf94 := by kernel_rfl
noncomputable def xi95 := xiM 95 Go.Proofs.Tryz.f95 21
theorem xi95_ok : TabOK Go.Proofs.Tryz.prog [xi95] := tabOK1 Go.Proofs.Tryz.func95 (by kernel_rfl) (by kernel_rfl) rfl rfl
noncomputable def cf95 : FnC := (.mk 21 8 q9j (.seq qbn (.seq (.seq (.rg (.op .no q86 .loc (.op .no (.bin .eql 29 qf q2k) q8 .fin))) qd5) (.seq (.rg (.op .no (.bsl 92 0 4 []) .loc (.op .no q86 .loc (.op .no qbh .loc q9o)))) .ret))))
theorem cf95_ok : compF Go.Proofs.Tryz.prog xi95 = some cf95 := by kernel_rfl
end
end Go.Proofs.YteodgliliglipaaGreatDoor.V.I
namespace Go.Proofs.YteodgliliglipaaGreatDoor.V.I
open Go
noncomputable section
set_option maxRecDepth 100000
noncomputable def xi97 := xiM 97 Go.Proofs.Tryz.f97 1216944609464568979304416360791007
theorem xi97_ok : TabOK Go.Proofs.Tryz.prog [xi97] := tabOK1 Go.Proofs.Tryz.func97 (by kernel_rfl) (by kernel_rfl) rfl rfl
noncomputable def cf97 : FnC := (.mk 1216944609464568979304416360791007 126 qd6 (.seq (.rg (.op .no q7w qb (.op .no q7x qm (.op .no q5x qp q8r)))) (.seq (.seq (.rg (.op .no q80 .loc (.op .no q13 .loc (.op .no q4u .loc (.op .no (.call (.lit (.clo 177 [])) [q22, qi, qf]) .loc q1i))))) (.seq (.rg (.op .no q27 .loc qay)) (.cond q5j (.seq (.rg (.op .no q27 .loc (.op .no q5x qp q47))) .ret) .skip))) (.seq (.rgd (.op .no qal .loc (.op .no q9a .loc (.op .no (.hard qd7) .loc (.op .no (.softw q80 1 (.load 26 (.tmp 3)) (rfR 1216944609464568979304416360791007 [29, 28, 27] [3])) .loc (.op .no (.mk (.makeSlice 50 (.tmp 29) (.tmp 29)) (rfR 1216944609464568979304416360791007 [26, 29, 28, 27] [29, 29]) 0 0) .loc (.op .no (.mk (.makeMap 278 Option.none) (rfR 1216944609464568979304416360791007 [30, 26, 29, 28, 27] []) 2 0) .loc (.op .no (.soft (.bld [(.mk 0 3 q22), (.mk 5 1 qi), (.mk 6 1 qf)] [(.int .i64 (.ofNat 0)), (.int .i64 (.ofNat 0)), (.con (.slice Option.none 0 0)), (.con (.slice Option.none 0 0)), (.con (.slice Option.none 0 0)), (.con (.slice Option.none 0 0)), (.con (.map Option.none)), (.con (.slice Option.none 0 0))])) .loc (.op .no (.box 281 qf 4) .loc (.op .no q15 q24 .fin))))))))) 6) (.seq (.rg (.op .no q29 .loc (.op .no q80 .loc (.op .no q13 .loc (.op .no (.call (.lit (.clo 113 [])) [qi, qf]) .loc (.op .no qg .loc (.op .no qh .loc (.op .no qj .loc (.op .no (.nilc q33) .loc (.op .no (.fadr 3 qf) .loc qd8)))))))))) (.seq (.rg (.op .no q29 .loc (.op .no q80 .loc (.op .no q13 .loc (.op .no (.call q14 [qi, qf]) .loc (.op .no qg .loc (.op .no qh .loc (.op .no qj .loc (.op .no (.nilc q33) .loc (.op .no (.fadr 4 qf) .loc qd8)))))))))) (.seq (.seq (.rg (.op .no q4u q5c qb1)) (.block 0 (.loop (.seq qb2 (.seq qb3 (.seq (.block 1 (.seq (.rg (.op .no (.ias 4 q5k q52) .loc qd9)) (.seq (.rg (.op .no (.fadr 3 q25) .loc (.op .no q2q q6f (.op .no (.len q6g) q6p (.op .no qa q6t .fin))))) (.block 2 (.loop (.seq (.rg (.op .no (.bin .lss 3 q6u q6q) q71 .fin)) (.seq (.cond q72 .skip q8m) (.seq (.block 3 (.seq (.rg (.op .no (.mv q6u) .loc (.op .no (.ias 1 q6g q6u) .loc (.op .no q2q .loc (.op .no q23 qv q4o))))) (.rg (.op .no q29 .loc (.op .no qda .loc (.op .no (.fadr 5 qf) .loc (.op .no q2q .loc (.op .no q4t .loc (.op .no q4w .loc (.op .no (.ias 1 q22 qi) .loc q62)))))))))) (.rg (.op .no (.bin .add 3 q6u q2g) .loc (.op .no qg q6t .fin))))))))))) qb6)))))) (.seq (.seq (.rg (.op .no q29 .loc (.op .no qda .loc (.op .no (.fadr 5 qf) .loc (.op .no q2q .loc (.op .no q1g q75 (.op .no qa q79 .fin))))))) (.block 4 (.loop (.seq (.rg (.op .no (.bin .lss 3 q7a q76) q7c .fin)) (.seq (.cond q7d .skip qdb) (.seq (.block 5 (.seq (.rg (.op .no (.mv q7a) .loc q64)) (.seq (.rg (.op .no qc1 qbc .fin)) (.block 6 (.loop (.seq (.rg (.op .no (.bin .lss 5 qbd q9g) (.kep (.r (.r q18))) .fin)) (.seq (.cond (.kep (.r (.r q18))) .skip qdc) (.seq (.block 7 (.seq (.rg (.op .no (.mv qbd) .loc q3q)) (.rg (.op .no q29 .loc (.op .no q5z .loc (.op .no q5i .loc (.op .no (.call (.lit (.clo 179 [])) [q22, qi, qf]) .loc .fin))))))) (.rg (.op .no (.bin .add 5 qbd qa3) .loc (.op .no qg qbc .fin))))))))))) (.rg (.op .no (.bin .add 3 q7a q2g) .loc (.op .no qg q79 .fin))))))))) (.seq (.rg (.op .no q29 .loc (.op .no qda .loc (.op .no qdd .loc (.op .no q2q .loc (.op .no (.call (.lit (.clo 180 [])) [qf, (.lit (.clo 181 []))]) .loc .fin)))))) (.seq (.rg (.op .no q29 .loc (.op .no qda .loc (.op .no qdd .loc (.op .no q2q .loc (.op .no q1g .loc (.op .no (.gen (.makeSlice 99 (.tmp 101) (.tmp 101)) (rfC 1216944609464568979304416360791007 [101, 100, 99, 98, 97])) .loc q2h))))))) (.seq (.seq (.rg (.op .no q29 .loc (.op .no qda .loc (.op .no qdd .loc (.op .no q2q (.kep (.l q1r)) (.op .no (.len qde) (.kep (.r q1r)) (.op .no qa qdf .fin))))))) (.block 8 (.loop (.seq (.rg (.op .no (.bin .lss 3 qdg qdh) qdi .fin)) (.seq (.cond qdj .skip (.exit 8)) (.seq (.block 9 (.seq (.rg (.op .no (.mv qdg) .loc (.op .no (.ias 6 qde qdg) .loc (.op .no (.ld 6 true qf) .loc (.op .no qdk q56 (.op .no q23 q1s (.op .no (.st 6 q5f qf) .non .fin))))))) (.rgd (.op .no qch .loc (.op .no qch .loc (.op .no qdl .loc (.op .no qdm .loc (.op .no q6z .loc (.op .no (.soft (.ld 6 true q5f)) .loc (.op .no (.soft (.gen (.lookup 278 (.tmp 119) (.tmp 120) false) (rfR 1216944609464568979304416360791007 [120, 119, 118, 117, 116, 115] [119, 120]))) .loc (.op .no (.hard (.call (.lit (.clo 182 [])) [q33, qf])) .loc (.op .no (.soft q1x) .loc (.op .no q6r .loc (.op .no (.soft (.ias 9 qi qf)) .loc (.op .no (.hard (.st 9 qf q2l)) .non .fin)))))))))))) 0))) (.rg (.op .no (.bin .add 3 qdg q2g) .loc (.op .no qg qdf .fin))))))))) (.seq (.rg (.op .no q1x .loc (.op .no qg qp q8r))) .ret))))))))))))
theorem cf97_ok : compF Go.Proofs.Tryz.prog xi97 = some cf97 := by kernel_rfl
noncomputable def xi98 := xiM 98 Go.Proofs.Tryz.f98 52614059267903853659931206712331753740954083622903
theorem xi98_ok : TabOK Go.Proofs.Tryz.prog [xi98] := tabOK1 Go.Proofs.Tryz.func98 (by kernel_rfl) (by kernel_rfl) rfl rfl
noncomputable def cf98 : FnC := (.mk 52614059267903853659931206712331753740954083622903 166 qab (.seq (.rg (.op .no (.box 183 q4) q8 qc)) (.seq (.rg (.op .no (.alloc 288 [(.con (.slice Option.none 0 0)), (.con (.slice Option.none 0 0))]) qm .fin)) (.seq (.rg (.op .no q4b qp .fin)) (.seq (.seq (.rg (.op .no q61 .loc (.op .no q1z .loc (.op .no q6x .loc (.op .no q1z .loc (.op .no (.bsl 59 2 3 [q22, qf]) q5c qb1)))))) (.block 0 (.loop (.seq qb2 (.seq qb3 (.seq (.block 1 (.seq (.rg (.op .no (.mv q52) .loc (.op .no (.ias 3 q5k q52) .loc (.op .no q1z .loc (.op .no q20 q1h (.op .no q23 q19 q3m)))))) (.seq (.rg (.op .no q45 .loc (.op .no (.ld 3 true q26) .loc (.op .no (.call (.lit (.clo 183 [])) [qi, qf]) .loc q60)))) (.seq (.rg (.op .no (.ld 9 true q0) .loc (.op .no q1f .loc (.op .no (.gen (.convert 3 5 (.tmp 37)) (rfC 52614059267903853659931206712331753740954083622903 [37, 36])) .loc (.op .no q29 .loc (.op .no (.call (.lit (.clo 184 [])) [q2l, qi, qf]) .loc (.op .no qg .loc (.op .no qh .loc (.op .no qj .loc (.op .no q58 .loc (.op .no q23 q21 (.op .no q17 qv q4o)))))))))))) (.seq (.seq (.rg (.op .no q4t .loc (.op .no q78 .loc (.op .no qg .loc (.op q2r (.fadr 7 q0) .loc (.op q2t q2q .loc (.op q2u (.call (.lit (.clo 185 [])) [qf, (.lit (.clo 186 []))]) .loc (.op .no q2w q6f .fin)))))))) (.cond q6g qac .skip)) (.seq (.rg (.op .no q1f .loc (.op .no q4w .loc (.op .no (.iaa 2 1 qn qi) .loc q62)))) (.seq .skip (.seq (.rg (.op .no q4s q6p qdn)) (.block 2 (.loop (.seq qdo (.seq (.cond q76 .skip q8m) (.seq (.block 3 (.seq (.rg (.op .no (.mv q72) .loc (.op .no (.ias 2 q6q q72) .loc (.op .no q5o .loc (.op .no qdp q1l (.op .no q23 q1j (.op .no (.st 2 q1q qf) .non .fin))))))) (.seq (.seq (.rg (.op .no q4w q79 (.op .no (.len q7a) q7c (.op .no qa qbc .fin)))) (.block 4 (.loop (.seq (.rg (.op .no (.bin .lss 3 qbd q7d) (.kep (.r (.r q18))) .fin)) (.seq (.cond (.kep (.r (.r q18))) .skip qdb) (.seq (.block 5 (.seq (.rg (.op .no (.ias 1 q7a qbd) .loc (.op .no q2q .loc q2h))) (.seq (.rg (.op .no q1x .loc (.op .no qdq .loc (.op .no q2q .loc (.op .no (.bin .gtr 3 q22 qf) .loc (.op .no qg .loc (.op q5q q1x .loc (.op q5r qdr .loc (.op q5s q2q .loc (.op q5t qds .loc (.op .no (.pick q2e qf q3t) (.kep (.l q1r)) .fin))))))))))) (.cond qde (.seq qdt q8m) .skip)))) (.rg (.op .no (.bin .add 3 qbd q2g) .loc (.op .no qg qbc .fin))))))))) (.seq (.rg (.op .no q4s .loc (.op .no q5z .loc (.op .no (.gen (.slice 289 (.tmp 78) Option.none (Option.some (.tmp 79)) Option.none) (rfC 52614059267903853659931206712331753740954083622903 [79, 78])) (.kep (.r q1r)) (.op .no (.len qdh) qdf (.op .no qa qdi .fin)))))) (.block 6 (.loop (.seq (.rg (.op .no (.bin .lss 3 qdj qdg) (.kep (.l q59)) .fin)) (.seq (.cond (.kep (.l q59)) .skip qdc) (.seq (.block 7 (.seq (.rg (.op .no (.ias 2 qdh qdj) .loc (.op .no q5o .loc (.op .no qdp q1s (.op .no (.st 2 q1u qf) .non .fin))))) (.seq (.rg (.op .no qdq .loc (.op .no q2q .loc (.op .no qdu .loc (.op .no q2q .loc (.op .no qds .loc (.op .no qg .loc (.op q5q qdu .loc (.op q5r q2q .loc (.op q5s qdr .loc (.op q5t q2q .loc (.op q5u qds .loc (.op .no q5v .loc (.op .no qg .loc (.op q5q qdr .loc (.op q5r q2q .loc (.op q5s qdv .loc (.op q5t q2q .loc (.op q5u qds .loc (.op .no q5v .loc (.op .no qg .loc (.op q2r qdu .loc (.op q2t q2q .loc (.op q2u qdq .loc (.op q2z q2q .loc (.op q30 qds .loc (.op q32 qg .loc (.op q5q qdq .loc (.op q5r q2q .loc (.op q5s qdv .loc (.op q5t q2q .loc (.op q5u qds .loc (.op (.yes q7o false) q5v .loc (.op (.yes qd4 false) qg .loc (.op q5q qdv .loc (.op q5r q2q .loc (.op q5s qdr .loc (.op q5t q2q .loc (.op q5u qds .loc (.op (.yes (.loc qdx) false) q5v .loc (.op .no (.pick (.loc (.s qdx)) q2v qf) (.kep (.r q59)) .fin))))))))))))))))))))))))))))))))))))))))) (.cond (.kep (.r q59)) (.seq qdt q8m) .skip)))) (.rg (.op .no (.bin .add 3 qdj q2g) .loc (.op .no qg qdi .fin)))))))))))) qdy))))))))))))) qb6)))))) (.seq (.seq (.rg (.op .no (.iaa 2 1 qn q9) .loc (.op .no q2q .loc (.op .no q1g (.kep (.l q5b)) (.op .no qa (.kep (.r q5b)) .fin))))) (.block 8 (.loop (.seq (.rg (.op .no (.bin .lss 3 qdz (.kep (.l q5b))) (.kep (.l q5d)) .fin)) (.seq (.cond (.kep (.l q5d)) .skip (.exit 8)) (.seq (.block 9 (.seq (.rg (.op .no (.mv qdz) .loc q57)) (.seq (.rg (.op .no q5g (.kep (.r q5d)) (.op .no qa (.kep (.l q50)) .fin))) (.block 10 (.loop (.seq (.rg (.op .no (.bin .lss 3 qe0 (.kep (.r q5d))) (.kep (.r q50)) .fin)) (.seq (.cond (.kep (.r q50)) .skip (.exit 10)) (.seq (.block 11 (.seq (.rg (.op .no (.mv qe0) .loc (.op .no qg q5a .fin))) (.seq (.rgd (.op .no qe1 .loc (.op .no q6z .loc (.op .no (.soft q5g) .loc (.op .no qba .loc (.op .no q6z .loc (.op .no qe1 .loc (.op .no q6z .loc (.op .no (.soft (.mv q5j)) .loc (.op .no qba .loc (.op .no q6z .loc (.op .no qe3 .loc (.op .no (.softw (.iaa 2 1 qn q2g) 1 (.indexAddr 288 (.tmp 5) (.const (.int .i64 (.ofNat 1)))) (rfR 52614059267903853659931206712331753740954083622903 [149, 148, 147, 146, 145, 144, 143, 142, 141, 140, 139] [5])) .loc (.op .no (.softw q2q 1 (.load 50 (.tmp 150)) (rfR 52614059267903853659931206712331753740954083622903 [150, 149, 148, 147, 146, 145, 144, 143, 142, 141, 140, 139] [150])) .loc (.op .no (.soft q5g) .loc (.op .no (.softw qat 1 (.indexAddr 50 (.tmp 151) (.tmp 152)) (rfR 52614059267903853659931206712331753740954083622903 [152, 151, 150, 149, 148, 147, 146, 145, 144, 143, 142, 141, 140, 139] [151, 152])) .loc (.op .no (.softw q2q 1 (.load 3 (.tmp 153)) (rfR 52614059267903853659931206712331753740954083622903 [153, 152, 151, 150, 149, 148, 147, 146, 145, 144, 143, 142, 141, 140, 139] [153])) .loc (.op .no (.softw (.iaa 2 1 qn q2g) 1 (.indexAddr 288 (.tmp 5) (.const (.int .i64 (.ofNat 1)))) (rfR 52614059267903853659931206712331753740954083622903 [154, 153, 152, 151, 150, 149, 148, 147, 146, 145, 144, 143, 142, 141, 140, 139] [5])) .loc (.op .no (.softw q2q 1 (.load 50 (.tmp 155)) (rfR 52614059267903853659931206712331753740954083622903 [155, 154, 153, 152, 151, 150, 149, 148, 147, 146, 145, 144, 143, 142, 141, 140, 139] [155])) .loc (.op .no (.soft (.mv q5j)) .loc (.op .no (.softw qat 1 (.indexAddr 50 (.tmp 156) (.tmp 157)) (rfR 52614059267903853659931206712331753740954083622903 [157, 156, 155, 154, 153, 152, 151, 150, 149, 148, 147, 146, 145, 144, 143, 142, 141, 140, 139] [156, 157])) .loc (.op .no (.softw q2q 1 (.load 3 (.tmp 158)) (rfR 52614059267903853659931206712331753740954083622903 [158, 157, 156, 155, 154, 153, 152, 151, 150, 149, 148, 147, 146, 145, 144, 143, 142, 141, 140, 139] [158])) .loc (.op .no qe3 .loc (.op .no (.soft (.bin .mul 3 q7o qf)) .loc (.op .no qe4 (.kep (.l q5l)) .fin)))))))))))))))))))))))) 0) (.cond (.kep (.l q5l)) qdt .skip)))) (.rg (.op .no (.bin .add 3 qe0 q2g) .loc (.op .no qg (.kep (.l q50)) .fin))))))))))) (.rg (.op .no (.bin .add 3 qdz q2g) .loc (.op .no qg (.kep (.r q5b)) .fin))))))))) (.seq (.seq (.rg (.op .no qt (.kep (.r q5l)) .fin)) (.cond (.kep (.r q5l)) (.seq (.rg (.op .no (.mv q8y) qb .fin)) .ret) .skip)) qad)))))))
theorem cf98_ok : compF Go.Proofs.Tryz.prog xi98 = some cf98 := by kernel_rfl
noncomputable def xi99 := xiM 99 Go.Proofs.Tryz.f99 68722623487
theorem xi99_ok : TabOK Go.Proofs.Tryz.prog [xi99] := tabOK1 Go.Proofs.Tryz.func99 (by kernel_rfl) (by kernel_rfl) rfl rfl
noncomputable def cf99 : FnC := (.mk 68722623487 42 (.one qe5) (.seq (.rg (.op .no q5 q8 (.op .no (.box 186 qd) qb (.op .no qb7 qm .fin)))) (.seq (.rgd (.op .no qe6 .loc (.op .no q6z .loc (.op .no q70 .loc (.op .no q6z .loc (.op .no (.soft (.gen (.call (Call.mk (Callee.builtin Builtin.min) (Array.mk [(.tmp 11), (.tmp 13)]) (Array.mk [3, 3]))) (rfR 68722623487 [13, 12, 11, 10] [11, 13]))) .loc (.op .no qe6 .loc (.op .no q6z .loc (.op .no q70 .loc (.op .no q6z .loc (.op .no (.soft (.gen (.call (Call.mk (Callee.builtin Builtin.max) (Array.mk [(.tmp 16), (.tmp 18)]) (Array.mk [3, 3]))) (rfR 68722623487 [18, 17, 16, 15, 14, 13, 12, 11, 10] [16, 18]))) .loc (.op .no (.soft (.mv q2d)) qp (.op .no q15 q19 .fin)))))))))))) 0) (.seq (.seq qe7 (.block 0 (.loop (.seq (.rg (.op .no (.bin .lss 5 qy q9g) q1b .fin)) (.seq (.cond q1d .skip q1v) (.seq (.block 1 (.seq (.rg (.op .no q4w .loc q1i)) (.seq (.rg (.op .no q40 .loc (.op .no qt .loc (.op .no q27 .loc (.op .no qe8 .loc q4m))))) (.seq (.rg (.op .no q4s .loc (.op .no qe9 .loc (.op .no qg .loc (.op q5q q29 .loc (.op q5r q1f .loc (.op q5s (.bin .eql 3 qi qf) .loc (.op .no qea q1j .fin)))))))) (.cond q1k (.seq (.rg (.op .no qt .loc (.op .no q27 .loc (.op .no qeb .loc qec)))) .ret) .skip))))) (.rg (.op .no (.bin .add 5 qy qa3) .loc q6d)))))))) (.seq (.rg (.op .no qed .loc qec)) .ret)))))
theorem cf99_ok : compF Go.Proofs.Tryz.prog xi99 = some cf99 := by kernel_rfl
noncomputable def xi100 := xiM 100 Go.Proofs.Tryz.f100 1055
theorem xi100_ok : TabOK Go.Proofs.Tryz.prog [xi100] := tabOK1 Go.Proofs.Tryz.func100 (by kernel_rfl) (by kernel_rfl) rfl rfl
noncomputable def cf100 : FnC := (.mk 1055 11 qcx (.seq (.rg (.op .no (.box 101 q4) q8 (.op .no (.box 186 qd) qb (.op .no qc1 qm .fin)))) (.seq (.seq (.rg (.op .no (.fadr 7 q0) .loc (.op .no q2q .loc (.op .no q6n .loc (.op .no q2q .loc (.op .no qb8 .loc (.op .no q2q qp .fin))))))) (.cond qs (.seq (.rg (.op .no (.mv qa3) qm .fin)) .ret) .skip)) (.seq (.rg (.op .no (.mv qa6) qm .fin)) .ret))))
theorem cf100_ok : compF Go.Proofs.Tryz.prog xi100 = some cf100 := by kernel_rfl
noncomputable def xi102 := xiM 102 Go.Proofs.Tryz.f102 5
theorem xi102_ok : TabOK Go.Proofs.Tryz.prog [xi102] := tabOK1 Go.Proofs.Tryz.func102 (by kernel_rfl) (by kernel_rfl) rfl rfl
noncomputable def cf102 : FnC := (.mk 5 6 q9j (.seq qee (.seq (.rg (.op .no q86 .loc (.op .no q86 .loc (.op .no (.bin .neq 3 qi qf) .loc q9o)))) .ret)))
theorem cf102_ok : compF Go.Proofs.Tryz.prog xi102 = some cf102 := by kernel_rfl
noncomputable def xi103 := xiM 103 Go.Proofs.Tryz.f103 5
theorem xi103_ok : TabOK Go.Proofs.Tryz.prog [xi103] := tabOK1 Go.Proofs.Tryz.func103 (by kernel_rfl) (by kernel_rfl) rfl rfl
noncomputable def cf103 : FnC := (.mk 5 6 q9j (.seq qee (.seq (.rg (.op .no q86 .loc (.op .no q86 .loc (.op .no (.bin .neq 5 qi qf) .loc q9o)))) .ret)))
theorem cf103_ok : compF Go.Proofs.Tryz.prog xi103 = some cf103 := by kernel_rfl
noncomputable def xi104 := xiM 104 Go.Proofs.Tryz.f104 17535
theorem xi104_ok : TabOK Go.Proofs.Tryz.prog [xi104] := tabOK1 Go.Proofs.Tryz.func104 (by kernel_rfl) (by kernel_rfl) rfl rfl
noncomputable def cf104 : FnC := (.mk 17535 21 q7e (.seq (.rg (.op .no q5 q6 q7f)) (.seq (.seq q7s (.seq (.rg (.op .no q3d .loc q43)) (.cond q26 q7g .skip))) (.seq (.rg (.op .no (.alloc 154 [(.con (.slice Option.none 0 0))]) qp .fin)) (.seq (.seq (.rg (.op .no qe .loc (.op .no (.call (.lit (.clo 187 [])) [qf]) .loc .fin))) (.block 0 .bad)) (.seq (.rg (.op .no qef .loc (.op .no (.call (.lit (.clo 188 [])) [qf]) .loc q7p))) .ret))))))
theorem cf104_ok : compF Go.Proofs.Tryz.prog xi104 = some cf104 := by kernel_rfl
noncomputable def xi105 := xiM 105 Go.Proofs.Tryz.f105 67112655
theorem xi105_ok : TabOK Go.Proofs.Tryz.prog [xi105] := tabOK1 Go.Proofs.Tryz.func105 (by kernel_rfl) (by kernel_rfl) rfl rfl
noncomputable def cf105 : FnC := (.mk 67112655 34 q7v (.seq (.rg (.op .no q7w qb (.op .no qc1 qm q67))) (.seq (.rg (.op .no q80 .loc (.op .no q45 .loc (.op .no q4u .loc (.op .no (.call (.lit (.clo 189 [])) [q22, qi, qf]) .loc (.op .no qg .loc (.op .no qh .loc (.op .no qj .loc (.op .no q58 .loc (.op .no (.ext q2c q2l) .loc (.op .no qb7 .loc (.op .no (.st 2 qf q2e) .non (.op .no (.mv q2l) q19 (.op .no q23 q1h (.op .no q17 q24 .fin))))))))))))))) (.seq (.seq (.rg (.op .no q29 .loc (.op .no qu .loc (.op .no qg .loc (.op q2r q27 .loc (.op q2t q78 .loc (.op .no q4r q21 .fin))))))) (.cond q25 (.seq (.rg (.op .no q29 .loc (.op .no qc1 qm qq))) .ret) .skip)) (.seq (.rg (.op .no q6n .loc (.op .no q2q .loc (.op .no q1f .loc (.op .no qci .loc (.op .no q3h .loc (.op .no q2q .loc qbs))))))) .ret)))))
theorem cf105_ok : compF Go.Proofs.Tryz.prog xi105 = some cf105 := by kernel_rfl
noncomputable def xi113 := xiM 113 Go.Proofs.Tryz.f113 383
theorem xi113_ok : TabOK Go.Proofs.Tryz.prog [xi113] := tabOK1 Go.Proofs.Tryz.func113 (by kernel_rfl) (by kernel_rfl) rfl rfl
noncomputable def cf113 : FnC := (.mk 383 18 q7v (.seq q7y (.seq qbq q83)))
theorem cf113_ok : compF Go.Proofs.Tryz.prog xi113 = some cf113 := by kernel_rfl
noncomputable def xi114 := xiM 114 Go.Proofs.Tryz.f114 568328959
theorem xi114_ok : TabOK Go.Proofs.Tryz.prog [xi114] := tabOK1 Go.Proofs.Tryz.func114 (by kernel_rfl) (by kernel_rfl) rfl rfl
noncomputable def cf114 : FnC := (.mk 568328959 31 q7v (.seq (.rg (.op .no qa1 q8 (.op .no qcz qb qag))) (.seq (.rg (.op .no q80 .loc (.op .no (.call (.lit (.clo 191 [])) [qf]) .loc (.op .no qg .loc (.op .no qh .loc (.op .no qj .loc (.op .no (.alloc 306 [(.int .i64 (.ofNat 0)), (.int .i64 (.ofNat 0)), (.int .i64 (.ofNat 0)), (.int .i64 (.ofNat 0)), (.int .i64 (.ofNat 0)), (.int .i64 (.ofNat 0))]) q19 (.op .no (.st 6 q1e qi) .non q1i)))))))) (.seq (.seq (.rg (.op .no q27 .loc (.op .no qu .loc (.op .no qg .loc (.op q2r q40 .loc (.op q2t qa2 .loc (.op q2u qu .loc (.op .no q2w q21 .fin)))))))) (.cond q25 qcb .skip)) (.seq (.seq (.rg (.op .no (.ld 6 true q1e) qv (.op .no qa q1b .fin))) (.block 0 (.loop (.seq (.rg (.op .no (.bin .lss 3 q1d q4z) q1j .fin)) (.seq (.cond q1k .skip q1v) (.seq (.block 1 (.seq (.rg (.op .no (.gen (.index 306 (.tmp 22) (.tmp 23)) (rfC 568328959 [])) .loc (.op .no qeg q24 (.op .no (.st 2 q28 qf) .non .fin)))) (.seq (.rg (.op .no q40 .loc (.op .no (.ld 2 true q28) .loc (.op .no (.call (.lit (.clo 192 [])) [qi, qf]) .loc (.op .no qeh q1l .fin))))) (.cond q1q (.seq (.rg (.op .no q34 qm q67)) .ret) .skip)))) q8k)))))) (.seq (.rg qag) .ret))))))
theorem cf114_ok : compF Go.Proofs.Tryz.prog xi114 = some cf114 := by kernel_rfl
noncomputable def xi115 := xiM 115 Go.Proofs.Tryz.f115 19
theorem xi115_ok : TabOK Go.Proofs.Tryz.prog [xi115] := tabOK1 Go.Proofs.Tryz.func115 (by kernel_rfl) (by kernel_rfl) rfl rfl
noncomputable def cf115 : FnC := (.mk 19 9 q2m (.seq qej (.seq (.rg (.op .no q86 .loc (.op .no q45 .loc (.op .no (.call (.lit (.clo 193 [])) [qi, qf]) .loc qek)))) .ret)))
theorem cf115_ok : compF Go.Proofs.Tryz.prog xi115 = some cf115 := by kernel_rfl
noncomputable def xi119 := xiM 119 Go.Proofs.Tryz.f119 19
theorem xi119_ok : TabOK Go.Proofs.Tryz.prog [xi119] := tabOK1 Go.Proofs.Tryz.func119 (by kernel_rfl) (by kernel_rfl) rfl rfl
noncomputable def cf119 : FnC := (.mk 19 14 q90 (.seq qct (.rg (.op .no q86 .loc (.op .no q4u .loc (.op .no q4u .loc (.op .no qcu .loc (.op .no qcv .loc (.op .no q45 .loc (.op .no (.call qel [q2d, q9, q2e, qi, qf]) .loc .fin))))))))))
theorem cf119_ok : compF Go.Proofs.Tryz.prog xi119 = some cf119 := by kernel_rfl
noncomputable def xi121 := xiM 121 Go.Proofs.Tryz.f121 5
theorem xi121_ok : TabOK Go.Proofs.Tryz.prog [xi121] := tabOK1 Go.Proofs.Tryz.func121 (by kernel_rfl) (by kernel_rfl) rfl rfl
noncomputable def cf121 : FnC := (.mk 5 9 q9j (.seq qbn (.seq (.rg (.op .no q86 .loc (.op .no q86 .loc (.op .no q1g .loc (.op .no q86 .loc (.op .no q1g .loc (.op .no (.gen (.slice 24 (.tmp 3) Option.none (Option.some (.tmp 5)) (Option.some (.tmp 7))) (rfC 5 [7, 6, 5, 4, 3])) .loc q9o))))))) .ret)))
theorem cf121_ok : compF Go.Proofs.Tryz.prog xi121 = some cf121 := by kernel_rfl
noncomputable def xi122 := xiM 122 Go.Proofs.Tryz.f122 21
theorem xi122_ok : TabOK Go.Proofs.Tryz.prog [xi122] := tabOK1 Go.Proofs.Tryz.func122 (by kernel_rfl) (by kernel_rfl) rfl rfl
noncomputable def cf122 : FnC := (.mk 21 8 q9j (.seq qbn (.seq (.seq (.rg (.op .no q86 .loc (.op .no (.bin .eql 24 qf q2k) q8 .fin))) qd5) (.seq (.rg (.op .no (.bsl 62 0 3 []) .loc (.op .no q86 .loc (.op .no (.app 24 62 3 16 qi qf) .loc q9o)))) .ret))))
theorem cf122_ok : compF Go.Proofs.Tryz.prog xi122 = some cf122 := by kernel_rfl
noncomputable def xi123 := xiM 123 Go.Proofs.Tryz.f123 525
theorem xi123_ok : TabOK Go.Proofs.Tryz.prog [xi123] := tabOK1 Go.Proofs.Tryz.func123 (by kernel_rfl) (by kernel_rfl) rfl rfl
noncomputable def cf123 : FnC := (.mk 525 28 q90 (.seq (.rg (.op .no q86 .loc (.op .no q1g .loc (.op .no q7l .loc (.op .no qa q6 q3f))))) (.block 0 (.loop (.seq (.seq (.rg (.op .no q45 .loc (.op .no q4u .loc (.op .no q9w qb .fin)))) (.cond q2 .skip q1v)) (.seq (.block 1 (.rgd (.op .no qc3 .loc (.op .no q9c .loc (.op .no qc3 .loc (.op .no qbx .loc (.op .no qba .loc (.op .no q6z .loc (.op .no qc3 .loc (.op .no q9c .loc (.op .no qba .loc (.op .no q6z .loc (.op .no (.soft (.ias 1 qem q7n)) .loc (.op .no qen .non (.op .no qc3 .loc (.op .no qbx .loc (.op .no qba .loc q8i))))))))))))))) 0)) (.rg (.op .no q45 .loc (.op .no qae .loc (.op .no q4u .loc (.op .no q7l .loc (.op .no q23 q6 q3f))))))))))))
theorem cf123_ok : compF Go.Proofs.Tryz.prog xi123 = some cf123 := by kernel_rfl
noncomputable def xi124 := xiM 124 Go.Proofs.Tryz.f124 66483
theorem xi124_ok : TabOK Go.Proofs.Tryz.prog [xi124] := tabOK1 Go.Proofs.Tryz.func124 (by kernel_rfl) (by kernel_rfl) rfl rfl
noncomputable def cf124 : FnC := (.mk 66483 19 q2m (.seq q37 (.seq (.seq qeo (.block 0 (.loop (.seq qep (.seq qeq (.seq (.block 1 (.seq qer (.seq (.rg (.op .no q45 .loc (.op .no q86 .loc (.op .no q4q .loc (.op .no q8e .loc (.op .no q89 .loc qes)))))) qeu))) qev)))))) q9t)))
theorem cf124_ok : compF Go.Proofs.Tryz.prog xi124 = some cf124 := by kernel_rfl
noncomputable def xi128 := xiM 128 Go.Proofs.Tryz.f128 33554439
theorem xi128_ok : TabOK Go.Proofs.Tryz.prog [xi128] := tabOK1 Go.Proofs.Tryz.func128 (by kernel_rfl) (by kernel_rfl) rfl rfl
noncomputable def cf128 : FnC := (.mk 33554439 26 q2m (.seq (.rg (.op .no (.box 28 q4) q6 q2n)) (.seq (.seq (.rg (.op .no q2p .loc (.op .no q2q .loc (.op .no (.gen (.convert 5 3 (.tmp 4)) (rfC 33554439 [4, 3])) .loc (.op .no (.bin .geq 3 qf qew) .loc (.op .no qg .loc (.op q2r q2s .loc (.op q2t q2q .loc (.op q2u qex .loc (.op .no q2w .loc (.op .no qg .loc (.op q2r qav .loc (.op q2t q2q .loc (.op q2u qex .loc (.op .no q2w .loc (.op .no qg .loc (.op q2r q2s .loc (.op q2t q2q .loc (.op q2u qav .loc (.op q2z q2q .loc (.op q30 qcp .loc (.op q32 (.bin .rem 3 qf q46) .loc (.op (.yes q33 false) q4y .loc (.op .no (.pick qb4 q2v qf) qb .fin)))))))))))))))))))))))) q36) q38)))
theorem cf128_ok : compF Go.Proofs.Tryz.prog xi128 = some cf128 := by kernel_rfl
noncomputable def xi138 := xiM 138 Go.Proofs.Tryz.f138 5
theorem xi138_ok : TabOK Go.Proofs.Tryz.prog [xi138] := tabOK1 Go.Proofs.Tryz.func138 (by kernel_rfl) (by kernel_rfl) rfl rfl
noncomputable def cf138 : FnC := (.mk 5 9 q9j (.seq qbn (.seq (.rg (.op .no q86 .loc (.op .no q86 .loc (.op .no q1g .loc (.op .no q86 .loc (.op .no q1g .loc (.op .no (.gen (.slice 50 (.tmp 3) Option.none (Option.some (.tmp 5)) (Option.some (.tmp 7))) (rfC 5 [7, 6, 5, 4, 3])) .loc q9o))))))) .ret)))
theorem cf138_ok : compF Go.Proofs.Tryz.prog xi138 = some cf138 := by kernel_rfl
noncomputable def xi154 := xiM 154 Go.Proofs.Tryz.f154 5
theorem xi154_ok : TabOK Go.Proofs.Tryz.prog [xi154] := tabOK1 Go.Proofs.Tryz.func154 (by kernel_rfl) (by kernel_rfl) rfl rfl
noncomputable def cf154 : FnC := (.mk 5 6 q9j (.seq q9k (.seq (.rg (.op .no (.bld [(.mk 0 1 (.lit (.int .i64 (.ofNat 1000)))), (.mk 1 1 (.lit (.int .i64 (.ofNat 10000)))), (.mk 2 1 (.lit (.int .i64 (.ofNat 1024)))), (.mk 3 1 q2x), (.mk 4 1 (.lit (.int .i64 (.ofNat 1000000))))] [(.int .i64 (.ofNat 0)), (.int .i64 (.ofNat 0)), (.int .i64 (.ofNat 0)), (.int .i64 (.ofNat 0)), (.int .i64 (.ofNat 0))]) .loc (.op .no q86 .loc (.op .no (.gen (.index 319 (.tmp 3) (.tmp 4)) (rfC 5 [4, 3])) .loc q9o)))) .ret)))
theorem cf154_ok : compF Go.Proofs.Tryz.prog xi154 = some cf154 := by kernel_rfl
noncomputable def xi155 := xiM 155 Go.Proofs.Tryz.f155 1005
theorem xi155_ok : TabOK Go.Proofs.Tryz.prog [xi155] := tabOK1 Go.Proofs.Tryz.func155 (by kernel_rfl) (by kernel_rfl) rfl rfl
noncomputable def cf155 : FnC := (.mk 1005 19 q9j (.seq q9k (.seq q37 (.seq (.seq q9l (.block 0 (.loop (.seq q8t (.seq q8u (.seq (.block 1 (.seq (.rg (.op .no (.ias 4 qn q1e) .loc (.op .no q89 .loc (.op .no q8a qb (.op .no (.st 4 q2 qf) .non .fin))))) (.rg (.op .no q4u .loc (.op .no (.fadr 3 q2) .loc (.op .no q2q .loc (.op .no q1g .loc (.op .no (.gen (.call (Call.mk (Callee.builtin Builtin.max) (Array.mk [(.tmp 12), (.tmp 15)]) (Array.mk [3, 3]))) (rfC 1005 [15, 14, 13, 12])) .loc q3f)))))))) q8z)))))) q9q))))
theorem cf155_ok : compF Go.Proofs.Tryz.prog xi155 = some cf155 := by kernel_rfl
noncomputable def xi156 := xiM 156 Go.Proofs.Tryz.f156 2003
theorem xi156_ok : TabOK Go.Proofs.Tryz.prog [xi156] := tabOK1 Go.Proofs.Tryz.func156 (by kernel_rfl) (by kernel_rfl) rfl rfl
noncomputable def cf156 : FnC := (.mk 2003 18 q2m (.seq q37 (.seq (.seq q9l (.block 0 (.loop (.seq q8t (.seq q8u (.seq (.block 1 (.seq q9n (.rg (.op .no q45 .loc (.op .no q4q .loc (.op .no (.gen (.call (Call.mk (Callee.builtin Builtin.max) (Array.mk [(.tmp 13), (.tmp 14)]) (Array.mk [3, 3]))) (rfC 2003 [14, 13])) .loc q9o)))))) q8z)))))) (.seq (.rg (.op .no q45 .loc q3f)) .ret))))
theorem cf156_ok : compF Go.Proofs.Tryz.prog xi156 = some cf156 := by kernel_rfl
noncomputable def xi157 := xiM 157 Go.Proofs.Tryz.f157 19
theorem xi157_ok : TabOK Go.Proofs.Tryz.prog [xi157] := tabOK1 Go.Proofs.Tryz.func157 (by kernel_rfl) (by kernel_rfl) rfl rfl
noncomputable def cf157 : FnC := (.mk 19 9 q2m (.seq qej (.seq (.rg (.op .no q86 .loc (.op .no q45 .loc (.op .no (.call (.lit (.clo 124 [])) [qi, qf]) .loc qek)))) .ret)))
theorem cf157_ok : compF Go.Proofs.Tryz.prog xi157 = some cf157 := by kernel_rfl
noncomputable def xi158 := xiM 158 Go.Proofs.Tryz.f158 7
theorem xi158_ok : TabOK Go.Proofs.Tryz.prog [xi158] := tabOK1 Go.Proofs.Tryz.func158 (by kernel_rfl) (by kernel_rfl) rfl rfl
noncomputable def cf158 : FnC := (.mk 7 7 q2m (.seq (.rg (.op .no (.box 92 q4) q6 qei)) (.seq (.rg (.op .no q2p .loc (.op .no q1z .loc (.op .no qey .loc (.op .no qu .loc q3f))))) .ret)))
theorem cf158_ok : compF Go.Proofs.Tryz.prog xi158 = some cf158 := by kernel_rfl
noncomputable def xi159 := xiM 159 Go.Proofs.Tryz.f159 33554439
theorem xi159_ok : TabOK Go.Proofs.Tryz.prog [xi159] := tabOK1 Go.Proofs.Tryz.func159 (by kernel_rfl) (by kernel_rfl) rfl rfl
noncomputable def cf159 : FnC := (.mk 33554439 26 q2m (.seq (.rg (.op .no (.box 59 q4) q6 q2n)) (.seq (.seq (.rg (.op .no q2p .loc (.op .no q2q .loc (.op .no qa8 .loc (.op .no qg .loc (.op q2r q2p .loc (.op q2t q2q .loc (.op q2u qa9 .loc (.op .no q2w .loc (.op .no qg .loc (.op q2r q2s .loc (.op q2t q2q .loc (.op q2u qa8 .loc (.op .no q2w .loc (.op .no qg .loc (.op q2r q2s .loc (.op q2t q2q .loc (.op q2u qa9 .loc (.op .no q2w .loc (.op .no qg .loc (.op q2r qav .loc (.op q2t q2q .loc (.op q2u (.bin .gtr 5 qf q9g) .loc qaa))))))))))))))))))))))) q36) q38)))
theorem cf159_ok : compF Go.Proofs.Tryz.prog xi159 = some cf159 := by kernel_rfl
noncomputable def xi160 := xiM 160 Go.Proofs.Tryz.f160 2113663
theorem xi160_ok : TabOK Go.Proofs.Tryz.prog [xi160] := tabOK1 Go.Proofs.Tryz.func160 (by kernel_rfl) (by kernel_rfl) rfl rfl
noncomputable def cf160 : FnC := (.mk 2113663 24 qez (.seq (.rg (.op .no (.box 28 q4) q8 (.op .no qcz qb (.op .no q20 qm q67)))) (.seq (.seq (.rg (.op .no q7z .loc (.op .no qbi .loc (.op .no qu .loc (.op .no qg .loc (.op q2r q80 .loc (.op q2t qey .loc (.op q2u qu .loc (.op .no q2w q1h .fin))))))))) (.cond q26 (.seq (.rg (.op .no qc6 .loc (.op .no q96 .non qbf))) .ret) .skip)) (.seq (.rg (.op .no q7z .loc (.op .no q80 .loc (.op .no (.call (.lit (.clo 213 [])) [qi, qf]) .loc (.op .no q20 q19 (.op .no (.st 3 q1e qf) .non .fin)))))) (.seq (.seq (.rg (.op .no qc9 .loc (.op .no qey .loc q48))) (.cond q28 (.seq (.rg (.op .no qc6 .loc (.op .no q96 .non q6v))) .ret) .skip)) (.seq (.rg (.op .no qc9 .loc (.op .no q96 .non q67))) .ret))))))
theorem cf160_ok : compF Go.Proofs.Tryz.prog xi160 = some cf160 := by kernel_rfl
noncomputable def xi161 := xiM 161 Go.Proofs.Tryz.f161 3
theorem xi161_ok : TabOK Go.Proofs.Tryz.prog [xi161] := tabOK1 Go.Proofs.Tryz.func161 (by kernel_rfl) (by kernel_rfl) rfl rfl
noncomputable def cf161 : FnC := (.mk 3 9 q90 (.rg (.op .no q86 .loc (.op .no q86 .loc (.op .no q1g .loc (.op .no q45 .loc (.op .no (.call (.lit (.clo 214 [])) [q2l, qi, qf]) .loc .fin)))))))
theorem cf161_ok : compF Go.Proofs.Tryz.prog xi161 = some cf161 := by kernel_rfl
noncomputable def xi162 := xiM 162 Go.Proofs.Tryz.f162 31
theorem xi162_ok : TabOK Go.Proofs.Tryz.prog [xi162] := tabOK1 Go.Proofs.Tryz.func162 (by kernel_rfl) (by kernel_rfl) rfl rfl
noncomputable def cf162 : FnC := (.mk 31 10 qcx (.seq (.rg (.op .no (.box 92 q4) q8 (.op .no (.box 92 qd) qb q3z))) (.seq (.rg (.op .no q61 .loc (.op .no q1z .loc (.op .no q6c .loc (.op .no q1z .loc (.op .no qcy .loc q3c)))))) .ret)))
theorem cf162_ok : compF Go.Proofs.Tryz.prog xi162 = some cf162 := by kernel_rfl
noncomputable def xi163 := xiM 163 Go.Proofs.Tryz.f163 7
theorem xi163_ok : TabOK Go.Proofs.Tryz.prog [xi163] := tabOK1 Go.Proofs.Tryz.func163 (by kernel_rfl) (by kernel_rfl) rfl rfl
noncomputable def cf163 : FnC := (.mk 7 11 q2m (.seq (.rg (.op .no (.box 28 q4) q6 qei)) (.seq (.rg (.op .no (.ld 3 true qd) .loc (.op .no qbi .loc (.op .no qe9 .loc (.op .no qg .loc (.op q5q q2p .loc (.op q5r q2q .loc (.op q5s (.bin .geq 5 qf qa5) .loc (.op .no qea .loc q3f))))))))) .ret)))
theorem cf163_ok : compF Go.Proofs.Tryz.prog xi163 = some cf163 := by kernel_rfl
noncomputable def xi164 := xiM 164 Go.Proofs.Tryz.f164 31
theorem xi164_ok : TabOK Go.Proofs.Tryz.prog [xi164] := tabOK1 Go.Proofs.Tryz.func164 (by kernel_rfl) (by kernel_rfl) rfl rfl
noncomputable def cf164 : FnC := (.mk 31 17 qcx (.seq (.rg (.op .no qf0 q8 (.op .no (.box 62 qd) qb q3z))) (.seq (.rgd (.op .no q98 .loc (.op .no q6z .loc (.op .no qal .loc (.op .no q6z .loc (.op .no (.hard (.call qe2 [q22, qf])) .loc (.op .no (.soft qd0) .loc (.op .no (.softw q2q 1 (.load 5 (.tmp 10)) (rfR 31 [10, 9, 8, 7, 6, 5] [10])) .loc (.op .no qe6 .loc (.op .no (.softw q2q 1 (.load 5 (.tmp 12)) (rfR 31 [12, 11, 10, 9, 8, 7, 6, 5] [12])) .loc (.op .no qf1 .loc qf3)))))))))) 2) .ret)))
theorem cf164_ok : compF Go.Proofs.Tryz.prog xi164 = some cf164 := by kernel_rfl
noncomputable def xi165 := xiM 165 Go.Proofs.Tryz.f165 66483
theorem xi165_ok : TabOK Go.Proofs.Tryz.prog [xi165] := tabOK1 Go.Proofs.Tryz.func165 (by kernel_rfl) (by kernel_rfl) rfl rfl
noncomputable def cf165 : FnC := (.mk 66483 19 q2m (.seq q37 (.seq (.seq qeo (.block 0 (.loop (.seq qep (.seq qeq (.seq (.block 1 (.seq qer (.seq (.rg (.op .no q45 .loc (.op .no q86 .loc (.op .no q4q .loc (.op .no qat .loc (.op .no q2q .loc (.op .no (.bin .eql 3 q2e qf) q1h .fin))))))) qeu))) qev)))))) q9t)))
theorem cf165_ok : compF Go.Proofs.Tryz.prog xi165 = some cf165 := by kernel_rfl
noncomputable def xi166 := xiM 166 Go.Proofs.Tryz.f166 66679
theorem xi166_ok : TabOK Go.Proofs.Tryz.prog [xi166] := tabOK1 Go.Proofs.Tryz.func166 (by kernel_rfl) (by kernel_rfl) rfl rfl
noncomputable def cf166 : FnC := (.mk 66679 21 (.many [(.cell 3 true q2), q3x]) (.seq (.rg (.op .no q5 q8 (.op .no q20 qb q3z))) (.seq (.seq (.rg (.op .no q40 .loc (.op .no q7r .loc qq))) (.seq (.rg (.op .no qt .loc (.op .no qu q19 .fin))) (.cond q1e (.seq (.rg (.op .no qc6 .loc (.op .no qt .loc (.op .no (.st 3 q2 qi) .non q3c)))) .ret) .skip))) (.seq (.seq (.rg (.op .no q40 .loc (.op .no q45 .loc (.op .no (.call (.lit (.clo 215 [])) [qi, qf]) .loc (.op .no q78 q1h .fin))))) (.cond q26 (.seq (.rg (.op .no qc6 .loc (.op .no (.st 3 q2 qf) .non (.op .no q6h qm .fin)))) .ret) .skip)) (.seq (.rg (.op .no q40 .loc (.op .no q45 .loc (.op .no (.call (.lit (.clo 216 [])) [qi, qf]) .loc (.op .no (.st 3 q2 qf) .non q3z))))) .ret)))))
theorem cf166_ok : compF Go.Proofs.Tryz.prog xi166 = some cf166 := by kernel_rfl
noncomputable def xi168 := xiM 168 Go.Proofs.Tryz.f168 274877908095
theorem xi168_ok : TabOK Go.Proofs.Tryz.prog [xi168] := tabOK1 Go.Proofs.Tryz.func168 (by kernel_rfl) (by kernel_rfl) rfl rfl
noncomputable def cf168 : FnC := (.mk 274877908095 52 q7v (.seq (.rg (.op .no q5 q8 (.op .no qcz qb qag))) (.seq (.seq qf4 (.seq (.rg (.op .no q1f .loc q43)) (.cond q26 qai .skip))) (.seq (.seq (.rg (.op .no q80 .loc (.op .no qey .loc (.op .no qu .loc (.op .no qg .loc (.op q2r q6c .loc (.op q2t q2q .loc (.op q2u qcq .loc (.op .no q2w .loc (.op .no qg .loc (.op q2r q6c .loc (.op q2t q2q .loc (.op q2u q61 .loc (.op q2z q2q .loc (.op q30 (.bin .geq 3 q22 qf) .loc (.op .no (.pick q2d q2v qf) .loc (.op .no qg .loc (.op q2r qd1 .loc (.op q2t q2q .loc (.op q2u qcq .loc (.op .no q2w .loc (.op .no qg .loc (.op q2r qd1 .loc (.op q2t q2q .loc (.op q2u qd0 .loc (.op q2z q2q .loc (.op q30 (.bin .geq 3 q22 qf) .loc (.op .no (.pick q2d q2v qf) q24 .fin)))))))))))))))))))))))))))) (.cond q28 (.seq (.rg (.op .no qa qm q6i)) .ret) .skip)) (.seq (.rg (.op .no qd1 .loc (.op .no q2q .loc (.op .no q61 .loc (.op .no q2q .loc (.op .no q31 .loc (.op .no q6c .loc (.op .no q2q .loc (.op .no qcp .loc (.op .no qf5 .loc (.op .no q6n .loc (.op .no q2q .loc (.op .no (.gen (.convert 5 3 (.tmp 49)) (rfC 274877908095 [49, 48, 47, 46, 45, 44, 43, 42, 41, 40, 39])) .loc (.op .no qf6 .loc qbs)))))))))))))) .ret)))))
theorem cf168_ok : compF Go.Proofs.Tryz.prog xi168 = some cf168 := by kernel_rfl
noncomputable def xi169 := xiM 169 Go.Proofs.Tryz.f169 36893774020450329071
theorem xi169_ok : TabOK Go.Proofs.Tryz.prog [xi169] := tabOK1 Go.Proofs.Tryz.func169 (by kernel_rfl) (by kernel_rfl) rfl rfl
noncomputable def cf169 : FnC := (.mk 36893774020450329071 66 q2m (.seq (.rg (.op .no q7w q6 q2n)) (.seq (.seq (.rg (.op .no q2p .loc (.op .no q5o .loc (.op .no q7r .loc q10)))) (.seq (.rg (.op .no q4q .loc q48)) (.cond q28 qet .skip))) (.seq (.seq (.rg (.op .no qav .loc (.op .no q2q .loc (.op .no (.call (.lit (.clo 217 [])) [qf, (.lit (.clo 218 []))]) q21 .fin)))) q9z) (.seq (.seq (.rg (.op .no qav .loc (.op .no q2q qv (.op .no (.len qy) q1b (.op .no qa q1j .fin))))) (.block 0 (.loop (.seq q5y (.seq (.cond q1q .skip q1v) (.seq (.block 1 (.seq (.rg (.op .no (.ias 3 qy q1k) .loc qf7)) (.seq (.rg (.op .no q2p .loc (.op .no q5o .loc (.op .no qf8 .loc (.op .no q2q .loc (.op .no (.fadr 1 qn) .loc (.op .no q2q .loc (.op .no qf9 .loc (.op .no qg .loc (.op .no qh .loc (.op .no qj .loc (.op .no qb7 qp (.op .no (.st 2 qs qi) .non q47))))))))))))) (.seq (.rgd (.op .no q8d .loc (.op .no (.soft qu) .loc (.op .no q15 .loc (.op q2r q9b .loc (.op q2t qfa .loc (.op q2u (.softw (.ld 2 true qs) 1 (.load 107 (.tmp 6)) (rfR 36893774020450329071 [40, 39, 37, 36, 35] [6, 37])) .loc (.op q2z (.soft (.bin .neq 107 qf qi)) .loc (.op .no (.soft q3w) q1m .fin)))))))) 0) (.cond q1p (.seq (.rg (.op .no q6h q8 .fin)) .ret) .skip))))) q65)))))) (.seq (.seq (.rg (.op .no q34 q1h .fin)) (.block 2 (.loop (.seq (.seq (.rg (.op .no q27 .loc (.op .no qav .loc (.op .no q2q .loc (.op .no q1g .loc (.op .no (.bin .lss 3 q2l qf) q1s .fin)))))) (.cond q1u .skip q8m)) (.seq (.block 3 (.seq (.rgd (.op .no (.soft qav) .loc (.op .no q6z .loc (.op .no q2j .loc (.op .no qfb .loc (.op .no qfc .loc (.op .no qck .loc (.op .no qfa .loc (.op .no (.soft qav) .loc (.op .no (.softw q2q 1 (.load 24 (.tmp 58)) (rfR 36893774020450329071 [58, 57, 56, 55, 54, 53, 52, 51] [58])) .loc (.op .no q2j .loc (.op .no (.softw qci 1 (.indexAddr 24 (.tmp 59) (.tmp 60)) (rfR 36893774020450329071 [60, 59, 58, 57, 56, 55, 54, 53, 52, 51] [59, 60])) .loc (.op .no (.softw q1z 1 (.load 62 (.tmp 61)) (rfR 36893774020450329071 [61, 60, 59, 58, 57, 56, 55, 54, 53, 52, 51] [61])) .loc (.op .no qfa .loc (.op .no (.hard (.call (.lit (.clo 222 [])) [q33, qf])) .loc (.op .no (.soft qc5) q56 .fin))))))))))))))) 0) (.cond q5f (.seq (.rg (.op .no qfd q8 .fin)) .ret) .skip))) qfe))))) q38))))))
theorem cf169_ok : compF Go.Proofs.Tryz.prog xi169 = some cf169 := by kernel_rfl
noncomputable def xi170 := xiM 170 Go.Proofs.Tryz.f170 9444805164174432813055
theorem xi170_ok : TabOK Go.Proofs.Tryz.prog [xi170] := tabOK1 Go.Proofs.Tryz.func170 (by kernel_rfl) (by kernel_rfl) rfl rfl
noncomputable def cf170 : FnC := (.mk 9444805164174432813055 76 q7e (.seq (.rg (.op .no q7w q6 q7f)) (.seq (.rg (.op .no (.ld 3 true qd) .loc (.op .no (.call (.lit (.clo 223 [])) [qf]) .loc (.op .no (.alloc 329 [(.con (.map Option.none))]) qm (.op .no (.st 1 qn qf) .non .fin))))) (.seq (.rg (.op .no q2p .loc (.op .no q5o .loc (.op .no qd7 .loc (.op .no (.gen (.makeSlice 119 (.tmp 18) (.tmp 18)) (rfC 9444805164174432813055 [18, 17, 16])) .loc (.op .no (.alloc 119 [(.con (.slice Option.none 0 0))]) qp qff)))))) (.seq (.rg (.op .no qef .loc (.op .no q1g .loc (.op .no (.gen (.makeSlice 98 (.tmp 21) (.tmp 21)) (rfC 9444805164174432813055 [21, 20])) .loc q47)))) (.seq (.rg (.op .no (.gen (.makeFunc (Fn.func 224) (Array.mk []) (Array.mk [(.tmp 1), (.tmp 4), (.tmp 5)])) (rfC 9444805164174432813055 [])) .loc q1i)) (.seq (.rg (.op .no q1f .loc (.op .no q4x .loc qfg))) (.seq (.seq (.rg (.op .no (.bsl 3 1 1 [q9]) .loc q60)) (.block 0 (.loop (.seq (.seq (.rg (.op .no q29 .loc (.op .no q1g .loc (.op .no qeh q1m .fin)))) q3k) (.block 1 (.seq (.rg (.op .no q29 .loc (.op .no q4x .loc (.op .no q2q .loc q4l)))) (.seq (.rg (.op .no q29 .loc (.op .no (.gen (.slice 50 (.tmp 33) (Option.some (.const (.int .i64 (.ofNat 1)))) Option.none Option.none) (rfC 9444805164174432813055 [33])) .loc q60))) (.seq (.rg (.op .no qc1 q1s .fin)) (.block 2 (.loop (.seq (.rg (.op .no (.bin .lss 5 q1u q9g) q56 .fin)) (.seq (.cond q5f .skip q8m) (.seq (.block 3 (.seq (.rg (.op .no (.mv q1u) .loc q6d)) (.seq (.rg (.op .no q2p .loc (.op .no q5o .loc (.op .no q4s .loc (.op .no q4w .loc (.op .no qe8 .loc qfh)))))) (.seq (.seq (.rg (.op .no q5z .loc qay)) (.cond q5j (.exit 3) .skip)) (.seq (.rg (.op .no q27 .loc (.op .no q4s .loc (.op .no q4w .loc (.op .no (.call q22 [qi, qf]) .loc (.op .no q6k q1l (.op .no (.st 3 q1q qf) .non .fin))))))) (.seq (.seq (.rg (.op .no q1f .loc (.op .no q4t .loc (.op .no qat .loc (.op .no q2q .loc (.op .no q78 q5c .fin)))))) (.cond q5k (.seq (.rg (.op .no qef .loc (.op .no q4t .loc (.op .no q1f .loc (.op .no q4t .loc (.op .no (.ld 3 true q1q) .loc (.op .no (.ias 3 q2e q2l) .loc (.op .no (.st 3 qf qi) .non (.op .no (.ias 1 q2l q22) .loc qfg))))))))) (.rg (.op .no q29 .loc (.op .no q4t .loc (.op .no q2a .loc (.op .no q8h .loc q60)))))) .skip)) (.seq (.rgd (.op .no (.soft qef) .loc (.op .no (.soft q4t) .loc (.op .no qcj .loc (.op .no qck .loc (.op .no qcl .loc (.op .no (.soft (.bin .neq 28 qi qf)) q5e .fin)))))) 0) (.cond q5h (.seq (.rg (.op .no q5x q8 (.op .no (.mv (.lit (.int .i64 (.ofNat 11)))) qb .fin))) .ret) .skip)))))))) (.rg (.op .no (.bin .add 5 q1u qa3) .loc q6m))))))))))))))) (.seq (.rg (.op .no qef .loc q7p)) .ret)))))))))
theorem cf170_ok : compF Go.Proofs.Tryz.prog xi170 = some cf170 := by kernel_rfl
noncomputable def xi171 := xiM 171 Go.Proofs.Tryz.f171 65619
theorem xi171_ok : TabOK Go.Proofs.Tryz.prog [xi171] := tabOK1 Go.Proofs.Tryz.func171 (by kernel_rfl) (by kernel_rfl) rfl rfl
noncomputable def cf171 : FnC := (.mk 65619 27 q2m (.seq q85 (.seq (.seq (.rg (.op .no q45 .loc (.op .no qcq qb .fin))) (.cond q2 (.rg (.op .no (.gen (.makeInterface 9 (.const (.string (ByteArray.mk (Array.mk [(UInt8.ofNat 99), (UInt8.ofNat 97), (UInt8.ofNat 110), (UInt8.ofNat 110), (UInt8.ofNat 111), (UInt8.ofNat 116), (UInt8.ofNat 32), (UInt8.ofNat 98), (UInt8.ofNat 101), (UInt8.ofNat 32), (UInt8.ofNat 110), (UInt8.ofNat 101), (UInt8.ofNat 103), (UInt8.ofNat 97), (UInt8.ofNat 116), (UInt8.ofNat 105), (UInt8.ofNat 118), (UInt8.ofNat 101)]))))) (rfC 65619 [])) .loc (.op .no (.gen (.panic (.tmp 7)) (rfC 65619 [7])) .non .fin))) .skip)) (.seq (.seq (.rg (.op .no q45 .loc (.op .no q86 .loc (.op .no (.gen (.call (Call.mk (Callee.builtin Builtin.cap) (Array.mk [(.tmp 9)]) (Array.mk [29]))) (rfC 65619 [9, 8])) .loc (.op .no q86 .loc (.op .no q1g .loc (.op .no qfi .loc (.op .no (.bin .sub 3 q2d qf) .loc q9o)))))))) (.seq (.rg (.op .no q45 .loc (.op .no qeh qm .fin))) (.cond qn (.rg (.op .no q86 .loc (.op .no q86 .loc (.op .no (.gen (.call (Call.mk (Callee.builtin Builtin.cap) (Array.mk [(.tmp 18)]) (Array.mk [29]))) (rfC 65619 [18, 17])) .loc (.op .no (.gen (.slice 29 (.tmp 17) Option.none (Option.some (.tmp 19)) Option.none) (rfC 65619 [19, 18, 17])) .loc (.op .no q45 .loc (.op .no (.gen (.call (Call.mk (Callee.builtin Builtin.append) (Array.mk [(.tmp 20), (.tmp 21)]) (Array.mk [29, 3]))) (rfC 65619 [21, 20, 19, 18, 17])) .loc (.op .no q86 .loc (.op .no q1g .loc (.op .no (.gen (.slice 29 (.tmp 22) Option.none (Option.some (.tmp 24)) Option.none) (rfC 65619 [24, 23, 22, 21, 20, 19, 18, 17])) .loc q5w)))))))))) .skip))) (.seq (.rg (.op .no q86 .loc q3f)) .ret)))))
theorem cf171_ok : compF Go.Proofs.Tryz.prog xi171 = some cf171 := by kernel_rfl
noncomputable def xi172 := xiM 172 Go.Proofs.Tryz.f172 21
theorem xi172_ok : TabOK Go.Proofs.Tryz.prog [xi172] := tabOK1 Go.Proofs.Tryz.func172 (by kernel_rfl) (by kernel_rfl) rfl rfl
noncomputable def cf172 : FnC := (.mk 21 8 q9j (.seq qbn (.seq (.seq (.rg (.op .no q86 .loc (.op .no (.bin .eql 50 qf q2k) q8 .fin))) qd5) (.seq (.rg (.op .no (.bsl 3 0 1 []) .loc (.op .no q86 .loc (.op .no (.app 50 3 1 8 qi qf) .loc q9o)))) .ret))))
theorem cf172_ok : compF Go.Proofs.Tryz.prog xi172 = some cf172 := by kernel_rfl
noncomputable def xi173 := xiM 173 Go.Proofs.Tryz.f173 42535296023574879666274036850519702559
theorem xi173_ok : TabOK Go.Proofs.Tryz.prog [xi173] := tabOK1 Go.Proofs.Tryz.func173 (by kernel_rfl) (by kernel_rfl) rfl rfl
noncomputable def cf173 : FnC := (.mk 42535296023574879666274036850519702559 148 q90 (.seq qdt (.seq qfk (.block 0 (.loop (.block 1 (.seq qfl (.seq (.seq qfm (.cond q5f (.seq (.rg (.op .no q86 .loc (.op .no q45 .loc (.op .no q4u .loc (.op .no q3d .loc qfn))))) .ret) .skip)) (.seq (.seq qfo (.cond q5j (.seq (.rg (.op .no q86 .loc (.op .no q45 .loc (.op .no q4u .loc (.op .no q3d .loc (.op .no (.call (.lit (.clo 227 [])) [q2l, q22, qi, qf]) .loc .fin)))))) .ret) .skip)) (.seq (.seq qfp (.cond q5k (.seq (.rg (.op .no q86 .loc (.op .no q45 .loc (.op .no q4u .loc (.op .no q3d .loc (.op .no (.call (.lit (.clo 228 [])) [q2l, q22, qi, qf]) .loc .fin)))))) qfq) .skip)) (.seq (.rg (.op .no q86 .loc (.op .no q45 .loc (.op .no q4u .loc (.op .no q3d .loc (.op .no (.call (.lit (.clo 229 [])) [q2l, q22, qi, qf]) .loc q4m)))))) (.seq (.seq qfr (.cond q5h (.seq (.rg (.op .no q86 .loc (.op .no q45 .loc (.op .no q4u .loc (.op .no q3d .loc (.op .no (.call (.lit (.clo 230 [])) [q2l, q22, qi, qf]) .loc .fin)))))) qft) .skip)) (.seq (.seq qfv (.cond q52 (.seq (.rg (.op .no q86 .loc (.op .no q45 .loc (.op .no q4u .loc (.op .no q3d .loc (.op .no (.call (.lit (.clo 231 [])) [q2l, q22, qi, qf]) q5m .fin)))))) qfw) .skip)) (.seq (.seq (.rgd (.op .no q9c .loc (.op .no qfx .loc (.op .no q15 .loc (.op q5q q8c .loc (.op q5r qc3 .loc (.op q5s q9c .loc (.op q5t qfb .loc (.op q5u qfy .loc (.op qfz qg0 .loc (.op qg1 qc3 .loc (.op qg2 qch .loc (.op qg3 q8f .loc (.op qg4 qg0 .loc qg9))))))))))))) 0) (.cond q6g (.seq (.rg (.op .no q86 .loc (.op .no q45 .loc (.op .no q4u .loc (.op .no q29 .loc (.op .no q3d .loc (.op .no (.call (.lit (.clo 232 [])) [q2e, q2l, q22, qi, qf]) .loc q6d))))))) qga) .skip)) (.seq (.rg (.op .no q86 .loc (.op .no q45 .loc (.op .no q4u .loc (.op .no q29 .loc (.op .no q3d .loc (.op .no (.call (.lit (.clo 233 [])) [q2e, q2l, q22, qi, qf]) .loc qfh))))))) (.seq qgb (.seq qgc (.seq qgd (.seq qge (.cond q6q (.seq qgh (.seq (.rg (.op .no q86 .loc (.op .no q45 .loc (.op .no q4t .loc (.op .no q4q .loc (.op .no q3d .loc (.op .no (.call qcw [q2e, q2l, q22, qi, qf]) .loc .fin))))))) qgi)) (.seq qgj (.seq (.rg (.op .no q86 .loc (.op .no q4t .loc (.op .no qae .loc (.op .no q4u .loc (.op .no q4q .loc (.op .no q3d .loc (.op .no (.call qcw [q2d, q2l, q22, qi, qf]) .loc .fin)))))))) qgk))))))))))))))))))))))
theorem cf173_ok : compF Go.Proofs.Tryz.prog xi173 = some cf173 := by kernel_rfl
noncomputable def xi174 := xiM 174 Go.Proofs.Tryz.f174 5
theorem xi174_ok : TabOK Go.Proofs.Tryz.prog [xi174] := tabOK1 Go.Proofs.Tryz.func174 (by kernel_rfl) (by kernel_rfl) rfl rfl
noncomputable def cf174 : FnC := (.mk 5 8 q9j (.seq q9k (.seq (.cond q3t (.seq (.rg (.op .no q86 .loc (.op .no (.gen (.convert 272 341 (.tmp 3)) (rfC 5 [3])) .loc (.op .no (.call (.lit (.clo 234 [])) [qf]) .loc q9o)))) .ret) .skip) (.seq (.rg (.op .no q86 .loc (.op .no (.call (.lit (.clo 235 [])) [qf]) .loc q9o))) .ret))))
theorem cf174_ok : compF Go.Proofs.Tryz.prog xi174 = some cf174 := by kernel_rfl
noncomputable def xi175 := xiM 175 Go.Proofs.Tryz.f175 263157
theorem xi175_ok : TabOK Go.Proofs.Tryz.prog [xi175] := tabOK1 Go.Proofs.Tryz.func175 (by kernel_rfl) (by kernel_rfl) rfl rfl
noncomputable def cf175 : FnC := (.mk 263157 21 q9j (.seq q9k (.seq (.seq q9l (.block 0 (.loop (.seq q8t (.seq q8u (.seq (.block 1 (.seq (.rg (.op .no (.ias 2 qn q1e) .loc (.op .no q5o .loc (.op .no qdp q8 qgl)))) (.seq (.rg (.op .no (.iaa 2 1 q0 q9) .loc (.op .no q2q .loc (.op .no (.iaa 2 1 q0 q2g) .loc (.op .no q2q .loc (.op .no (.call qe2 [q22, qf]) .loc q10)))))) (.seq (.rg (.op .no q4q .loc (.op .no q4y q24 .fin))) q9p)))) q8z)))))) (.seq q9k .ret))))
theorem cf175_ok : compF Go.Proofs.Tryz.prog xi175 = some cf175 := by kernel_rfl
noncomputable def xi177 := xiM 177 Go.Proofs.Tryz.f177 2309489120784772063
theorem xi177_ok : TabOK Go.Proofs.Tryz.prog [xi177] := tabOK1 Go.Proofs.Tryz.func177 (by kernel_rfl) (by kernel_rfl) rfl rfl
noncomputable def cf177 : FnC := (.mk 2309489120784772063 64 qgm (.seq (.rg (.op .no q7w qb (.op .no q7x qm q67))) (.seq (.rg (.op .no q80 .loc (.op .no q13 .loc (.op .no (.call q14 [qi, qf]) .loc (.op .no qg .loc (.op .no qh .loc (.op .no qj .loc (.op .no (.alloc 87 [(.con (.slice Option.none 0 0))]) q19 (.op .no (.st 1 q1e qi) .non q1i))))))))) (.seq (.seq (.rg (.op .no q27 .loc qaq)) (.cond q1q (.seq (.rg (.op .no q27 .loc qq)) .ret) .skip)) (.seq (.seq (.rg (.op .no q4u .loc (.op .no q6c .loc (.op .no q5o .loc (.op .no (.call (.lit (.clo 236 [])) [q22, qf]) .loc q60))))) (.seq (.rg (.op .no q29 .loc qcd)) (.cond q1p (.seq (.rg (.op .no q29 .loc qq)) .ret) .skip))) (.seq (.seq (.rg (.op .no q4u q1s (.op .no (.len q1u) q56 (.op .no qa q5a .fin)))) (.block 0 (.loop (.seq (.rg (.op .no (.bin .lss 3 q5j q5f) q5c .fin)) (.seq (.cond q5k .skip q1v) (.seq (.block 1 (.seq (.rg (.op .no (.ias 4 q1u q5j) .loc qd9)) (.seq (.rg (.op .no (.fadr 3 q25) .loc (.op .no q2q .loc (.op .no (.gen (.makeFunc (Fn.func 237) (Array.mk []) (Array.mk [(.tmp 7), (.tmp 11)])) (rfC 2309489120784772063 [40, 39])) .loc (.op .no qgn q5e .fin))))) (.cond q5h (.seq (.rg (.op .no qfd qp .fin)) .ret) .skip)))) (.rg (.op .no (.bin .add 3 q5j q2g) .loc (.op .no qg q5a .fin))))))))) (.seq (.seq (.rg (.op .no q4u q51 (.op .no (.len q52) q5m (.op .no qa q6f .fin)))) (.block 2 (.loop (.seq (.rg (.op .no (.bin .lss 3 q6g q5n) q6p .fin)) (.seq (.cond q6q .skip q8m) (.seq (.block 3 (.seq (.rg (.op .no (.ias 4 q52 q6g) .loc (.op .no q89 .loc (.op .no q8a qv (.op .no (.st 4 qy qf) .non .fin))))) (.seq (.rg (.op .no qc1 q6t .fin)) (.block 4 (.loop (.seq (.rg (.op .no (.bin .lss 5 q6u q9g) q71 .fin)) (.seq (.cond q72 .skip qdb) (.seq (.block 5 (.seq (.rg (.op .no (.mv q6u) .loc q4o)) (.seq (.rg (.op .no (.fadr 0 qy) .loc (.op .no q1z .loc (.op .no q4t .loc (.op .no qca .loc (.op .no qg .loc (.op .no qh .loc (.op .no qj .loc (.op .no q20 .loc (.op .no q74 .non (.op .no q17 q1j .fin))))))))))) (.seq (.rg (.op .no q5z .loc (.op .no qu q75 .fin))) (.cond q76 (.seq (.rg q6v) .ret) .skip))))) (.rg (.op .no (.bin .add 5 q6u qa3) .loc (.op .no qg q6t .fin))))))))))) (.rg (.op .no (.bin .add 3 q6g q2g) .loc (.op .no qg q6f .fin))))))))) (.seq (.rg q67) .ret))))))))
theorem cf177_ok : compF Go.Proofs.Tryz.prog xi177 = some cf177 := by kernel_rfl
noncomputable def xi178 := xiM 178 Go.Proofs.Tryz.f178 39
theorem xi178_ok : TabOK Go.Proofs.Tryz.prog [xi178] := tabOK1 Go.Proofs.Tryz.func178 (by kernel_rfl) (by kernel_rfl) rfl rfl
noncomputable def cf178 : FnC := (.mk 39 12 q2m (.seq q2o (.seq (.seq (.rg (.op .no qe .loc (.op .no q7r .loc (.op .no qu qb .fin)))) (.cond q2 q38 .skip)) (.seq (.rg (.op .no q2p .loc (.op .no q2q .loc (.op .no qf5 .loc (.op .no q2s .loc (.op .no q2q .loc (.op .no q31 .loc q3f))))))) .ret))))
theorem cf178_ok : compF Go.Proofs.Tryz.prog xi178 = some cf178 := by kernel_rfl
noncomputable def xi179 := xiM 179 Go.Proofs.Tryz.f179 2854582497864015163043553019533815099290744135
theorem xi179_ok : TabOK Go.Proofs.Tryz.prog [xi179] := tabOK1 Go.Proofs.Tryz.func179 (by kernel_rfl) (by kernel_rfl) rfl rfl
noncomputable def cf179 : FnC := (.mk 2854582497864015163043553019533815099290744135 180 q90 (.seq (.rg (.op .no q86 .loc (.op .no qda .loc (.op .no q7h .loc (.op .no q7h .loc (.op .no q5o .loc (.op .no q45 .loc (.op .no qc7 .loc (.op .no qg .loc (.op .no qh .loc (.op .no qj .loc (.op .no q20 qb (.op .no (.st 3 q2 qi) .non q6l))))))))))))) (.seq (.rg (.op .no q80 .loc (.op .no q4u .loc (.op .no qca .loc (.op .no qg .loc (.op .no qh .loc (.op .no qj .loc (.op .no q20 qm (.op .no (.st 3 qn qi) .non q6l))))))))) (.seq (.rgd (.op .no qc3 .loc (.op .no qdl .loc (.op .no q8g .loc (.op .no q6z .loc (.op .no q9c .loc (.op .no qcj .loc (.op .no qck .loc (.op .no q9b .loc (.op .no qcm .loc (.op .no q15 .loc (.op .no q16 .loc (.op .no (.alloc 59 [(.int .i64 (.ofNat 0)), (.int .i64 (.ofNat 0)), (.int .u8 (.ofNat 0))] 0) qp (.op .no (.hard (.st 3 qs qf)) .non qgo))))))))))))) 2) (.seq (.rgd (.op .no qc3 .loc (.op .no qc3 .loc (.op .no qdl .loc (.op .no (.soft (.fadr 4 qf)) .loc (.op .no q6z .loc (.op .no q9c .loc (.op .no qcj .loc (.op .no qck .loc (.op .no (.soft (.ld 3 true qs)) .loc (.op .no (.hard (.call (.lit (.clo 238 [])) [q7n, qi, qf])) .loc (.op .no q15 q19 .fin))))))))))) 0) (.seq (.rg (.op .no q86 .loc (.op .no qda .loc (.op .no q7h .loc (.op .no q7h .loc (.op .no q5o .loc (.op .no q45 .loc (.op .no q4u .loc (.op .no qe8 .loc qax))))))))) (.seq (.seq (.rg (.op .no q29 .loc q1c)) (.cond q1d (.seq (.rg (.op .no q1f .loc (.op .no q1f .loc (.op .no qda .loc (.op .no qgp .loc (.op .no q2q .loc (.op .no q45 .loc (.op .no q2a .loc (.op .no q8h .loc (.op .no (.nilc qb4) .loc (.op .no qgp .loc qgq))))))))))) .ret) .skip)) (.seq (.seq (.rg (.op .no q27 .loc (.op .no q45 .loc (.op .no q9w q1j .fin)))) (.cond q1k .ret .skip)) (.seq (.rg (.op .no q86 .loc (.op .no qda .loc (.op .no q7h .loc (.op .no q1z .loc (.op .no q45 .loc (.op .no q4u .loc (.op .no (.call (.lit (.clo 105 [])) [q22, qi, qf]) .loc q7j)))))))) (.seq qe7 (.seq (.seq (.rgd (.op .no qc3 .loc (.op .no qdl .loc (.op .no (.soft (.fadr 4 qf)) .loc (.op .no q6z .loc (.op .no q9c .loc (.op .no qcj .loc (.op .no qck .loc (.op .no q8d .loc (.op .no qdl .loc (.op .no q8g .loc (.op .no qck .loc (.op .no (.soft (.bin .eql 59 q2e qf)) q1l .fin)))))))))))) 0) (.cond q1q (.rg (.op .no (.mv qa3) qv .fin)) .skip)) (.block 0 (.seq (.rg (.op .no q4s .loc (.op .no qbb .loc (.op .no qg .loc (.op q5q q4w .loc (.op q5r (.bin .eql 5 qf q6o) .loc (.op .no qfu .loc q2h))))))) (.cond q1p (.rg (.op .no q1f .loc (.op .no q1f .loc (.op .no qda .loc (.op .no q8x .loc (.op .no q2q .loc (.op .no q45 .loc (.op .no q27 .loc qgr)))))))) (.seq (.rg (.op .no q4s .loc (.op .no qbb .loc q6m))) (.cond q1u (.rg (.op .no q1f .loc (.op .no q1f .loc (.op .no qda .loc (.op .no q8x .loc (.op .no q2q .loc (.op .no q27 .loc (.op .no q45 .loc qgr)))))))) (.seq (.rgd (.op .no qc3 .loc (.op .no qdl .loc (.op .no qgs .loc (.op .no q6z .loc (.op .no q9c .loc (.op .no qba .loc (.op .no q6z .loc (.op .no qc3 .loc (.op .no qdl .loc (.op .no qgs .loc (.op .no q6z .loc (.op .no q2j .loc (.op .no qba .loc (.op .no q6z .loc (.op .no (.soft (.bin .lss 3 qb4 qf)) .loc (.op .no q15 q56 .fin)))))))))))))))) 0) (.cond q5f (.rg (.op .no q1f .loc (.op .no q1f .loc (.op .no qda .loc (.op .no qdd .loc (.op .no q2q .loc (.op .no q4w .loc (.op .no q45 .loc (.op .no q27 .loc qgt))))))))) (.rg (.op .no q1f .loc (.op .no q1f .loc (.op .no qda .loc (.op .no qdd .loc (.op .no q2q .loc (.op .no q4w .loc (.op .no q27 .loc (.op .no q45 .loc qgt)))))))))))))))))))))))))))
theorem cf179_ok : compF Go.Proofs.Tryz.prog xi179 = some cf179 := by kernel_rfl
noncomputable def xi180 := xiM 180 Go.Proofs.Tryz.f180 19
theorem xi180_ok : TabOK Go.Proofs.Tryz.prog [xi180] := tabOK1 Go.Proofs.Tryz.func180 (by kernel_rfl) (by kernel_rfl) rfl rfl
noncomputable def cf180 : FnC := (.mk 19 14 q90 (.seq qct (.rg (.op .no q86 .loc (.op .no q4u .loc (.op .no q4u .loc (.op .no qcu .loc (.op .no qcv .loc (.op .no q45 .loc (.op .no (.call qgu [q2d, q9, q2e, qi, qf]) .loc .fin))))))))))
theorem cf180_ok : compF Go.Proofs.Tryz.prog xi180 = some cf180 := by kernel_rfl
noncomputable def xi181 := xiM 181 Go.Proofs.Tryz.f181 31
theorem xi181_ok : TabOK Go.Proofs.Tryz.prog [xi181] := tabOK1 Go.Proofs.Tryz.func181 (by kernel_rfl) (by kernel_rfl) rfl rfl
noncomputable def cf181 : FnC := (.mk 31 17 qcx (.seq (.rg (.op .no (.box 284 q4) q8 (.op .no (.box 284 qd) qb q3z))) (.seq (.rgd (.op .no (.soft (.iaa 2 3 q0 q9)) .loc (.op .no qck .loc (.op .no (.soft (.iaa 2 3 q2 q9)) .loc (.op .no qck .loc (.op .no (.hard qcy) .loc (.op .no (.softw (.iaa 2 3 q0 q2g) 1 (.indexAddr 284 (.tmp 2) (.const (.int .i64 (.ofNat 1)))) (rfR 31 [9, 8, 7, 6, 5] [2])) .loc (.op .no (.softw q1z 1 (.load 59 (.tmp 10)) (rfR 31 [10, 9, 8, 7, 6, 5] [10])) .loc (.op .no (.softw (.iaa 2 3 q2 q2g) 1 (.indexAddr 284 (.tmp 3) (.const (.int .i64 (.ofNat 1)))) (rfR 31 [11, 10, 9, 8, 7, 6, 5] [3])) .loc (.op .no (.softw q1z 1 (.load 59 (.tmp 12)) (rfR 31 [12, 11, 10, 9, 8, 7, 6, 5] [12])) .loc (.op .no (.hard qcy) .loc qf3)))))))))) 2) .ret)))
theorem cf181_ok : compF Go.Proofs.Tryz.prog xi181 = some cf181 := by kernel_rfl
noncomputable def xi182 := xiM 182 Go.Proofs.Tryz.f182 23
theorem xi182_ok : TabOK Go.Proofs.Tryz.prog [xi182] := tabOK1 Go.Proofs.Tryz.func182 (by kernel_rfl) (by kernel_rfl) rfl rfl
noncomputable def cf182 : FnC := (.mk 23 49 (.one (.cell 9 true q2)) (.seq (.rg (.op .no (.box 276 q4) q8 (.op .no q8v qb .fin))) (.seq (.rg (.op .no q45 .loc (.op .no qda .loc (.op .no q8x .loc (.op .no q2q .loc (.op .no (.gen (.makeFunc (Fn.func 241) (Array.mk []) (Array.mk [(.tmp 2)])) (rfC 23 [8, 7, 6, 5])) .loc (.op .no (.call (.lit (.clo 240 [])) [qi, qf]) .loc .fin))))))) (.seq (.rg (.op .no q45 .loc (.op .no qda .loc (.op .no qdd .loc (.op .no q2q .loc (.op .no (.gen (.makeFunc (Fn.func 243) (Array.mk []) (Array.mk [(.tmp 2)])) (rfC 23 [14, 13, 12, 11])) .loc (.op .no (.call (.lit (.clo 242 [])) [qi, qf]) .loc .fin))))))) (.seq (.rg (.op .no q45 .loc (.op .no qda .loc (.op .no qgp .loc (.op .no q2q .loc (.op .no (.call (.lit (.clo 244 [])) [qf]) .loc .fin)))))) (.seq (.rgd (.op .no q9c .loc (.op .no qdl .loc (.op .no qdm .loc (.op .no q6z .loc (.op .no (.hard (.call (.lit (.clo 246 [])) [qf])) .loc (.op .no (.hard (.call (.lit (.clo 245 [])) [qf])) .loc (.op .no q9c .loc (.op .no qdl .loc (.op .no (.soft qdd) .loc (.op .no (.softw q2q 2 (.load 181 (.tmp 38)) (rfR 23 [38, 37, 36, 35, 34, 33, 32, 31, 30] [38])) .loc (.op .no (.hard (.call (.lit (.clo 248 [])) [qf])) .loc (.op .no (.hard (.call (.lit (.clo 247 [])) [qf])) .loc (.op .no q9c .loc (.op .no qdl .loc (.op .no (.soft qgp) .loc (.op .no (.softw q2q 4 (.load 50 (.tmp 44)) (rfR 23 [44, 43, 42, 41, 40, 39, 38, 37, 36, 35, 34, 33, 32, 31, 30] [44])) .loc (.op .no (.hard qcr) .loc (.op .no (.hard qcs) .loc (.op .no q9c .loc (.op .no qdl .loc (.op .no q99 .loc (.op .no (.softw q1z 6 (.load 59 (.tmp 24)) (rfR 23 [24, 23, 22, 47, 46, 45, 44, 43, 42, 41, 40, 39, 38, 37, 36, 35, 34, 33, 32, 31, 30] [24])) .loc (.op .no q9c .loc (.op .no qdl .loc (.op .no q8g .loc (.op .no (.softw q1z 6 (.load 59 (.tmp 28)) (rfR 23 [28, 27, 26, 25, 24, 23, 22, 47, 46, 45, 44, 43, 42, 41, 40, 39, 38, 37, 36, 35, 34, 33, 32, 31, 30] [28])) .loc (.op .no (.soft (.bld [(.mk 0 3 q2e), (.mk 3 3 qf), (.mk 6 1 (.loc (.s (.s qdx)))), (.mk 7 1 (.loc (.s qdw))), (.mk 8 1 q7n)] [(.int .i64 (.ofNat 0)), (.int .i64 (.ofNat 0)), (.int .u8 (.ofNat 0)), (.int .i64 (.ofNat 0)), (.int .i64 (.ofNat 0)), (.int .u8 (.ofNat 0)), (.con (.slice Option.none 0 0)), (.con (.slice Option.none 0 0)), (.con (.slice Option.none 0 0))])) .loc (.op .no (.hard (.st 9 q2 qf)) .non .fin)))))))))))))))))))))))))))) 0) .ret))))))
theorem cf182_ok : compF Go.Proofs.Tryz.prog xi182 = some cf182 := by kernel_rfl
noncomputable def xi183 := xiM 183 Go.Proofs.Tryz.f183 67547
theorem xi183_ok : TabOK Go.Proofs.Tryz.prog [xi183] := tabOK1 Go.Proofs.Tryz.func183 (by kernel_rfl) (by kernel_rfl) rfl rfl
noncomputable def cf183 : FnC := (.mk 67547 22 qab (.seq (.rg (.op .no qcz q8 (.op .no q5x qb .fin))) (.seq (.seq qbo (.block 0 (.loop (.seq q93 (.seq q94 (.seq (.block 1 (.seq (.rg (.op .no (.ias 4 qs q26) .loc (.op .no q89 .loc (.op .no q8a qm qbp)))) (.seq (.rg (.op .no qf8 .loc (.op .no q1z .loc (.op .no q7z .loc (.op .no (.bin .eql 59 qi qf) q21 .fin))))) (.cond q25 (.seq (.rg (.op .no (.fadr 3 qn) .loc (.op .no q2q .loc (.op .no qcr .loc (.op .no qcs .loc q10))))) .ret) .skip)))) q9d)))))) (.seq (.rg (.op .no q5x qb .fin)) .ret))))
theorem cf183_ok : compF Go.Proofs.Tryz.prog xi183 = some cf183 := by kernel_rfl
end
end Go.Proofs.YteodgliliglipaaGreatDoor.V.I
namespace Go.Proofs.YteodgliliglipaaGreatDoor.V.I
open Go
noncomputable section
set_option maxRecDepth 100000
noncomputable def xi184 := xiM 184 Go.Proofs.Tryz.f184 144860660952047
theorem xi184_ok : TabOK Go.Proofs.Tryz.prog [xi184] := tabOK1 Go.Proofs.Tryz.func184 (by kernel_rfl) (by kernel_rfl) rfl rfl
noncomputable def cf184 : FnC := (.mk 144860660952047 70 (.many [q66, qan, (.cell 1 false q26)]) (.seq (.rg (.op .no (.box 183 q4) qb (.op .no (.box 50 q0) qm (.op .no q5x qp (.op .no q5x q19 (.op .no q3s q1h .fin)))))) (.seq (.rg (.op .no (.st 1 q26 q2v) .non .fin)) (.seq (.rg (.op .no (.gen (.makeFunc (Fn.func 249) (Array.mk []) (Array.mk [(.tmp 5), (.tmp 8)])) (rfC 144860660952047 [])) .loc q60)) (.seq (.seq (.rg (.op .no (.fadr 6 q2) .loc (.op .no q2q q1l (.op .no (.len q1q) q1m (.op .no qa q1s .fin))))) (.block 0 (.loop (.seq (.rg (.op .no (.bin .lss 3 q1u q1p) q56 .fin)) (.seq (.cond q5f .skip q1v) (.seq (.block 1 (.seq (.rg (.op .no (.ias 2 q1q q1u) .loc (.op .no q5o .loc (.op .no (.alloc 347 [(.int .i64 (.ofNat 0)), (.int .i64 (.ofNat 0))]) q21 (.op .no (.st 2 q25 qf) .non .fin))))) (.rg (.op .no q1f .loc (.op .no q29 .loc (.op .no (.fadr 0 q25) .loc (.op .no q2q .loc (.op .no (.fadr 1 q25) .loc (.op .no q2q .loc (.op .no qd2 .loc (.op .no q45 .loc (.op .no (.gen (.index 46 (.tmp 30) (.tmp 31)) (rfC 144860660952047 [31, 30, 29, 28, 27, 26, 25, 24])) .loc (.op .no (.call qb4 [qf]) .loc (.op .no q2a .loc (.op .no (.app 50 3 1 8 q9h qf) .loc q47))))))))))))))) (.rg (.op .no (.bin .add 3 q1u q2g) .loc q6m)))))))) (.seq (.seq (.rg (.op .no (.fadr 7 q2) .loc (.op .no q2q q5a qcf))) (.block 2 (.loop (.seq qcg (.seq (.cond q52 .skip q8m) (.seq (.block 3 (.seq (.rg (.op .no (.ias 3 q5j q5h) .loc (.op .no q1z .loc (.op .no q95 qv qbr)))) (.seq (.rg (.op .no (.fadr 0 qy) .loc (.op .no q2q .loc (.op .no q45 .loc (.op .no (.bin .eql 5 qi qf) q5m .fin))))) (.cond q5n (.seq (.rgd (.op .no qch .loc (.op .no (.soft (.fadr 1 qy)) .loc (.op .no q6z .loc (.op .no qby .loc (.op .no qch .loc (.op .no (.soft (.fadr 2 qy)) .loc (.op .no (.softw q2q 1 (.load 3 (.tmp 53)) (rfR 144860660952047 [53, 52, 51, 50, 49, 48] [53])) .loc (.op .no qby .loc (.op .no (.soft (.mv q2e)) q1b (.op .no q15 q1j .fin)))))))))) 0) (.rg (.op .no qt .loc (.op .no q4t .loc (.op .no q5z .loc (.op .no (.gen (.call (Call.mk (Callee.builtin Builtin.min) (Array.mk [(.tmp 57), (.tmp 58)]) (Array.mk [3, 3]))) (rfC 144860660952047 [58, 57, 56])) .loc (.op .no q4t .loc (.op .no q5z .loc (.op .no (.gen (.call (Call.mk (Callee.builtin Builtin.max) (Array.mk [(.tmp 60), (.tmp 61)]) (Array.mk [3, 3]))) (rfC 144860660952047 [61, 60, 59, 58, 57, 56])) .loc (.op .no qd3 .loc (.op .no (.bsl 46 1 2 [qf]) .loc (.op .no (.app 289 46 2 16 q7n qf) .loc qq)))))))))))) .skip)))) qcn)))))) (.seq (.rgd (.op .no qgv .loc (.op .no q8d .loc (.op .no (.soft (.ld 1 false q26)) .loc (.op .no (.soft q23) qp (.op .no (.soft q17) q19 (.op .no (.hard (.st 1 q26 qf)) .non .fin)))))) 0) .ret)))))))
theorem cf184_ok : compF Go.Proofs.Tryz.prog xi184 = some cf184 := by kernel_rfl
noncomputable def xi185 := xiM 185 Go.Proofs.Tryz.f185 19
theorem xi185_ok : TabOK Go.Proofs.Tryz.prog [xi185] := tabOK1 Go.Proofs.Tryz.func185 (by kernel_rfl) (by kernel_rfl) rfl rfl
noncomputable def cf185 : FnC := (.mk 19 9 q2m (.seq qej (.seq (.rg (.op .no q86 .loc (.op .no q45 .loc (.op .no (.call (.lit (.clo 250 [])) [qi, qf]) .loc qek)))) .ret)))
theorem cf185_ok : compF Go.Proofs.Tryz.prog xi185 = some cf185 := by kernel_rfl
noncomputable def xi186 := xiM 186 Go.Proofs.Tryz.f186 7
theorem xi186_ok : TabOK Go.Proofs.Tryz.prog [xi186] := tabOK1 Go.Proofs.Tryz.func186 (by kernel_rfl) (by kernel_rfl) rfl rfl
noncomputable def cf186 : FnC := (.mk 7 6 q2m (.seq (.rg (.op .no (.box 186 q4) q6 qei)) (.seq (.rg (.op .no q2p .loc (.op .no q2q .loc (.op .no (.bin .gtr 5 qf qa3) .loc q3f)))) .ret)))
theorem cf186_ok : compF Go.Proofs.Tryz.prog xi186 = some cf186 := by kernel_rfl
noncomputable def xi187 := xiM 187 Go.Proofs.Tryz.f187 7
theorem xi187_ok : TabOK Go.Proofs.Tryz.prog [xi187] := tabOK1 Go.Proofs.Tryz.func187 (by kernel_rfl) (by kernel_rfl) rfl rfl
noncomputable def cf187 : FnC := (.mk 7 4 q2m (.seq (.rg (.op .no q5 q6 (.op .no (.mv (.lit (.con .nilFunc))) q8 .fin))) (.seq (.rg (.op .no (.gen (.makeFunc (Fn.func 251) (Array.mk []) (Array.mk [(.tmp 1)])) (rfC 7 [])) .loc q3f)) .ret)))
theorem cf187_ok : compF Go.Proofs.Tryz.prog xi187 = some cf187 := by kernel_rfl
noncomputable def xi188 := xiM 188 Go.Proofs.Tryz.f188 5
theorem xi188_ok : TabOK Go.Proofs.Tryz.prog [xi188] := tabOK1 Go.Proofs.Tryz.func188 (by kernel_rfl) (by kernel_rfl) rfl rfl
noncomputable def cf188 : FnC := (.mk 5 9 q9j (.seq qbn (.seq (.rg (.op .no q86 .loc (.op .no q86 .loc (.op .no q1g .loc (.op .no q86 .loc (.op .no q1g .loc (.op .no (.gen (.slice 154 (.tmp 3) Option.none (Option.some (.tmp 5)) (Option.some (.tmp 7))) (rfC 5 [7, 6, 5, 4, 3])) .loc q9o))))))) .ret)))
theorem cf188_ok : compF Go.Proofs.Tryz.prog xi188 = some cf188 := by kernel_rfl
noncomputable def xi189 := xiM 189 Go.Proofs.Tryz.f189 1074036687
theorem xi189_ok : TabOK Go.Proofs.Tryz.prog [xi189] := tabOK1 Go.Proofs.Tryz.func189 (by kernel_rfl) (by kernel_rfl) rfl rfl
noncomputable def cf189 : FnC := (.mk 1074036687 43 (.many [qe5, q66, qan, (.tmp q26)]) (.seq (.rg (.op .no q7w qb (.op .no qb7 qm (.op .no qa qp (.op .no q4b q19 q91))))) (.seq (.seq (.rg (.op .no q80 .loc (.op .no qcc .loc q60))) (.seq qar (.cond q1q (.seq (.rg (.op .no qed .loc (.op .no q29 .loc qgw))) .ret) .skip))) (.seq (.rg (.op .no q6c .loc (.op .no q5o .loc (.op .no q45 .loc (.op .no q4u .loc (.op .no qgx .loc (.op .no qg .loc (.op .no qh .loc (.op .no qj .loc (.op .no qb7 q21 (.op .no (.st 2 q25 qi) .non q6d))))))))))) (.seq (.seq (.rg (.op .no q4w .loc qcd)) (.cond q1p (.seq (.rg (.op .no qed .loc (.op .no q4w .loc qgw))) .ret) .skip)) (.seq (.rg (.op .no q6n .loc (.op .no q2q .loc (.op .no (.ld 2 true q25) .loc (.op .no (.call (.lit (.clo 252 [])) [qi, qf]) .loc qfh))))) (.seq (.rg (.op .no (.ld 2 true q25) .loc (.op .no q4t .loc (.op .no q5z .loc (.op .no (.st 2 qn q22) .non (.op .no q17 qp (.op .no qg q19 q91))))))) .ret)))))))
theorem cf189_ok : compF Go.Proofs.Tryz.prog xi189 = some cf189 := by kernel_rfl
noncomputable def xi192 := xiM 192 Go.Proofs.Tryz.f192 136323135
theorem xi192_ok : TabOK Go.Proofs.Tryz.prog [xi192] := tabOK1 Go.Proofs.Tryz.func192 (by kernel_rfl) (by kernel_rfl) rfl rfl
noncomputable def cf192 : FnC := (.mk 136323135 33 qcx (.seq (.rg (.op .no qa1 q8 (.op .no (.box 300 qd) qb q3z))) (.seq (.seq (.rg (.op .no q40 .loc (.op .no qa2 .loc (.op .no qu .loc (.op .no qg .loc (.op q2r qaj .loc (.op q2t (.call (.lit (.clo 261 [])) [qf]) .loc (.op q2u qu .loc (.op .no q2w q19 .fin))))))))) (.cond q1e (.seq (.rg q3z) .ret) .skip)) (.seq (.seq (.rgd (.op .no (.hard (.call (.lit (.clo 262 [])) [])) .loc (.op .no q98 .loc (.op .no (.softw q2q 1 (.load 41 (.tmp 15)) (rfR 136323135 [15, 14] [15])) .loc (.op .no (.soft (.gen (.index 369 (.tmp 14) (.tmp 16)) (rfR 136323135 [16, 15, 14] [14, 16]))) .loc (.op .no (.soft (.gen (.field 368 (.tmp 17) 0) (rfR 136323135 [17, 16, 15, 14] [17]))) .loc (.op .no (.softw qaj 1 (.load 300 (.tmp 3)) (rfR 136323135 [18, 17, 16, 15, 14] [3])) .loc (.op .no (.hard (.call qi [qf])) .loc q1a))))))) 0) (.block 0 (.seq (.rg (.op .no qt .loc (.op .no qd0 .loc (.op .no q2q .loc (.op .no qa4 .loc (.op .no (.bin .lss 3 q2l qf) .loc q1i)))))) (.cond q26 (.seq (.rg (.op .no q9s qm .fin)) .ret) (.seq (.rg (.op .no qt .loc (.op .no qd0 .loc (.op .no q2q .loc (.op .no qa4 .loc (.op .no (.bin .gtr 3 q2l qf) .loc q60)))))) (.cond q28 (.seq (.rg (.op .no q34 qm .fin)) .ret) .skip)))))) (.seq (.rg q3z) .ret)))))
theorem cf192_ok : compF Go.Proofs.Tryz.prog xi192 = some cf192 := by kernel_rfl
noncomputable def xi193 := xiM 193 Go.Proofs.Tryz.f193 66483
theorem xi193_ok : TabOK Go.Proofs.Tryz.prog [xi193] := tabOK1 Go.Proofs.Tryz.func193 (by kernel_rfl) (by kernel_rfl) rfl rfl
noncomputable def cf193 : FnC := (.mk 66483 19 q2m (.seq q37 (.seq (.seq qeo (.block 0 (.loop (.seq qep (.seq qeq (.seq (.block 1 (.seq qer (.seq (.rg (.op .no q45 .loc (.op .no q86 .loc (.op .no q4q .loc (.op .no qat .loc (.op .no q2q .loc qes)))))) qeu))) qev)))))) q9t)))
theorem cf193_ok : compF Go.Proofs.Tryz.prog xi193 = some cf193 := by kernel_rfl
noncomputable def xi195 := xiM 195 Go.Proofs.Tryz.f195 42535296023574879666274036850519702559
theorem xi195_ok : TabOK Go.Proofs.Tryz.prog [xi195] := tabOK1 Go.Proofs.Tryz.func195 (by kernel_rfl) (by kernel_rfl) rfl rfl
noncomputable def cf195 : FnC := (.mk 42535296023574879666274036850519702559 148 q90 (.seq qdt (.seq qfk (.block 0 (.loop (.block 1 (.seq qfl (.seq (.seq qfm (.cond q5f (.seq (.rg (.op .no q86 .loc (.op .no q45 .loc (.op .no q4u .loc (.op .no q3d .loc (.op .no (.call (.lit (.clo 263 [])) [q2l, q22, qi, qf]) .loc .fin)))))) .ret) .skip)) (.seq (.seq qfo (.cond q5j (.seq (.rg (.op .no q86 .loc (.op .no q45 .loc (.op .no q4u .loc (.op .no q3d .loc (.op .no (.call (.lit (.clo 264 [])) [q2l, q22, qi, qf]) .loc .fin)))))) .ret) .skip)) (.seq (.seq qfp (.cond q5k (.seq (.rg (.op .no q86 .loc (.op .no q45 .loc (.op .no q4u .loc (.op .no q3d .loc (.op .no (.call (.lit (.clo 265 [])) [q2l, q22, qi, qf]) .loc .fin)))))) qfq) .skip)) (.seq (.rg (.op .no q86 .loc (.op .no q45 .loc (.op .no q4u .loc (.op .no q3d .loc (.op .no (.call (.lit (.clo 266 [])) [q2l, q22, qi, qf]) .loc q4m)))))) (.seq (.seq qfr (.cond q5h (.seq (.rg (.op .no q86 .loc (.op .no q45 .loc (.op .no q4u .loc (.op .no q3d .loc (.op .no (.call (.lit (.clo 267 [])) [q2l, q22, qi, qf]) .loc .fin)))))) qft) .skip)) (.seq (.seq qfv (.cond q52 (.seq (.rg (.op .no q86 .loc (.op .no q45 .loc (.op .no q4u .loc (.op .no q3d .loc (.op .no (.call (.lit (.clo 268 [])) [q2l, q22, qi, qf]) q5m .fin)))))) qfw) .skip)) (.seq (.seq qgy (.cond q6g (.seq (.rg (.op .no q86 .loc (.op .no q45 .loc (.op .no q4u .loc (.op .no q29 .loc (.op .no q3d .loc (.op .no (.call (.lit (.clo 269 [])) [q2e, q2l, q22, qi, qf]) .loc q6d))))))) qga) .skip)) (.seq (.rg (.op .no q86 .loc (.op .no q45 .loc (.op .no q4u .loc (.op .no q29 .loc (.op .no q3d .loc (.op .no (.call (.lit (.clo 270 [])) [q2e, q2l, q22, qi, qf]) .loc qfh))))))) (.seq qgb (.seq qgc (.seq qgd (.seq qge (.cond q6q (.seq qgh (.seq (.rg (.op .no q86 .loc (.op .no q45 .loc (.op .no q4t .loc (.op .no q4q .loc (.op .no q3d .loc (.op .no (.call qel [q2e, q2l, q22, qi, qf]) .loc .fin))))))) qgi)) (.seq qgj (.seq (.rg (.op .no q86 .loc (.op .no q4t .loc (.op .no qae .loc (.op .no q4u .loc (.op .no q4q .loc (.op .no q3d .loc (.op .no (.call qel [q2d, q2l, q22, qi, qf]) .loc .fin)))))))) qgk))))))))))))))))))))))
theorem cf195_ok : compF Go.Proofs.Tryz.prog xi195 = some cf195 := by kernel_rfl
noncomputable def xi202 := xiM 202 Go.Proofs.Tryz.f202 5
theorem xi202_ok : TabOK Go.Proofs.Tryz.prog [xi202] := tabOK1 Go.Proofs.Tryz.func202 (by kernel_rfl) (by kernel_rfl) rfl rfl
noncomputable def cf202 : FnC := (.mk 5 9 q9j (.seq qee (.seq (.rg (.op .no q86 .loc (.op .no (.bin .lss 3 qf (.lit (.int .i64 (Int.negSucc 16383)))) .loc (.op .no qg .loc (.op q2r q86 .loc (.op q2t (.bin .gtr 3 qf (.lit (.int .i64 (.ofNat 16384)))) .loc (.op .no q4r .loc q9o))))))) .ret)))
theorem cf202_ok : compF Go.Proofs.Tryz.prog xi202 = some cf202 := by kernel_rfl
noncomputable def xi214 := xiM 214 Go.Proofs.Tryz.f214 18014433942971335
theorem xi214_ok : TabOK Go.Proofs.Tryz.prog [xi214] := tabOK1 Go.Proofs.Tryz.func214 (by kernel_rfl) (by kernel_rfl) rfl rfl
noncomputable def cf214 : FnC := (.mk 18014433942971335 63 q90 (.seq (.rg (.op .no (.mv (.lit (.int .i64 (.ofNat 20)))) qb .fin)) (.seq (.rg (.op .no q4q .loc qah)) (.seq (.block 0 (.loop (.seq (.seq (.rg (.op .no qt .loc (.op .no q45 .loc (.op .no qgz q1h .fin)))) q8u) (.block 1 (.seq (.rg (.op .no q86 .loc (.op .no q3d .loc (.op .no qt .loc (.op .no q4u .loc qfn))))) (.seq qh0 (.rg (.op .no qt .loc (.op .no q4q .loc (.op .no qh1 .loc qq)))))))))) (.seq (.rg (.op .no q86 .loc (.op .no q3d .loc (.op .no q45 .loc (.op .no q4u .loc qfn))))) (.block 2 (.loop (.seq (.seq (.rg (.op .no q4q .loc q9x)) qh2) (.block 3 (.seq (.rg (.op .no q4q .loc (.op .no qa4 .loc qah))) (.seq (.block 4 (.loop (.seq (.seq (.rg (.op .no qt .loc (.op .no q45 .loc (.op .no qgz q21 .fin)))) qh3) (.block 5 (.seq (.rg (.op .no q86 .loc (.op .no q3d .loc (.op .no q3d .loc (.op .no q4q .loc (.op .no qh1 .loc (.op .no qt .loc (.op .no q4u .loc (.op .no (.call (.lit (.clo 274 [])) [q33, q2d, q22, qi, qf]) .loc .fin))))))))) (.seq qh0 (.rg (.op .no qt .loc (.op .no q4q .loc (.op .no qa4 .loc (.op .no qcp .loc qq))))))))))) (.seq (.seq (.rg (.op .no q3d .loc (.op .no q4q .loc (.op .no qh1 .loc q47)))) (.seq (.rg (.op .no q1f .loc (.op .no q45 .loc (.op .no q9w qv .fin)))) (.cond qy (.rg (.op .no q86 .loc (.op .no q3d .loc (.op .no q1f .loc (.op .no q45 .loc (.op .no q4u .loc (.op .no (.call (.lit (.clo 274 [])) [q2e, q2l, q22, qi, qf]) .loc .fin))))))) .skip))) (.rg (.op .no q4q .loc (.op .no (.bin .mul 3 qf q46) .loc q10)))))))))))))))
theorem cf214_ok : compF Go.Proofs.Tryz.prog xi214 = some cf214 := by kernel_rfl
noncomputable def xi215 := xiM 215 Go.Proofs.Tryz.f215 23
theorem xi215_ok : TabOK Go.Proofs.Tryz.prog [xi215] := tabOK1 Go.Proofs.Tryz.func215 (by kernel_rfl) (by kernel_rfl) rfl rfl
noncomputable def cf215 : FnC := (.mk 23 17 qab (.seq (.rg (.op .no q5 q8 (.op .no q4b qb .fin))) (.seq (.rg (.op .no q45 .loc (.op .no qc5 .loc (.op .no qg .loc (.op q5q q45 .loc (.op q5r q61 .loc (.op q5s q2q .loc (.op q5t qf5 .loc (.op q5u qd0 .loc (.op qfz q2q .loc (.op qg1 q31 .loc (.op qg2 (.bin .lss 3 q33 qf) .loc (.op .no (.pick q7n qf q3t) .loc q10))))))))))))) .ret)))
theorem cf215_ok : compF Go.Proofs.Tryz.prog xi215 = some cf215 := by kernel_rfl
noncomputable def xi216 := xiM 216 Go.Proofs.Tryz.f216 23
theorem xi216_ok : TabOK Go.Proofs.Tryz.prog [xi216] := tabOK1 Go.Proofs.Tryz.func216 (by kernel_rfl) (by kernel_rfl) rfl rfl
noncomputable def cf216 : FnC := (.mk 23 19 (.one (.cell 3 true q2)) (.seq (.rg (.op .no q5 q8 (.op .no q20 qb .fin))) (.seq (.rgd (.op .no q9c .loc (.op .no (.soft qh4) .loc (.op .no q98 .loc (.op .no q6z .loc (.op .no (.soft (.bin .rem 3 q22 qf)) .loc (.op .no q9c .loc (.op .no (.soft qh4) .loc (.op .no q98 .loc (.op .no q6z .loc (.op .no (.soft (.bin .quo 3 q22 qf)) .loc (.op .no q9c .loc (.op .no (.soft (.bin .rem 3 qf q4n)) .loc (.op .no (.soft (.gen (.convert 3 5 (.tmp 16)) (rfR 23 [16, 15, 14, 13, 12, 11, 10, 9, 8, 7, 6, 5] [16]))) .loc (.op .no (.soft (.bld [(.mk 0 1 q7n), (.mk 1 1 q2l), qa7] [(.int .i64 (.ofNat 0)), (.int .i64 (.ofNat 0)), (.int .u8 (.ofNat 0))])) .loc (.op .no (.hard (.st 3 q2 qf)) .non .fin))))))))))))))) 0) .ret)))
theorem cf216_ok : compF Go.Proofs.Tryz.prog xi216 = some cf216 := by kernel_rfl
noncomputable def xi217 := xiM 217 Go.Proofs.Tryz.f217 19
theorem xi217_ok : TabOK Go.Proofs.Tryz.prog [xi217] := tabOK1 Go.Proofs.Tryz.func217 (by kernel_rfl) (by kernel_rfl) rfl rfl
noncomputable def cf217 : FnC := (.mk 19 9 q2m (.seq qej (.seq (.rg (.op .no q86 .loc (.op .no q45 .loc (.op .no (.call (.lit (.clo 275 [])) [qi, qf]) .loc qek)))) .ret)))
theorem cf217_ok : compF Go.Proofs.Tryz.prog xi217 = some cf217 := by kernel_rfl
noncomputable def xi218 := xiM 218 Go.Proofs.Tryz.f218 7
theorem xi218_ok : TabOK Go.Proofs.Tryz.prog [xi218] := tabOK1 Go.Proofs.Tryz.func218 (by kernel_rfl) (by kernel_rfl) rfl rfl
noncomputable def cf218 : FnC := (.mk 7 7 q2m (.seq (.rg (.op .no qf0 q6 qei)) (.seq (.rg (.op .no qav .loc (.op .no q2q .loc (.op .no (.call (.lit (.clo 219 [])) [qf]) .loc (.op .no q78 .loc q3f))))) .ret)))
theorem cf218_ok : compF Go.Proofs.Tryz.prog xi218 = some cf218 := by kernel_rfl
noncomputable def xi219 := xiM 219 Go.Proofs.Tryz.f219 5
theorem xi219_ok : TabOK Go.Proofs.Tryz.prog [xi219] := tabOK1 Go.Proofs.Tryz.func219 (by kernel_rfl) (by kernel_rfl) rfl rfl
noncomputable def cf219 : FnC := (.mk 5 9 q9j (.seq qee (.seq (.rg (.op .no q86 .loc (.op .no (.bin .geq 60 qf qa3) .loc (.op .no qg .loc (.op q5q q86 .loc (.op q5r (.bin .leq 60 qf q9g) .loc (.op .no qfu .loc q9o))))))) .ret)))
theorem cf219_ok : compF Go.Proofs.Tryz.prog xi219 = some cf219 := by kernel_rfl
noncomputable def xi220 := xiM 220 Go.Proofs.Tryz.f220 263119
theorem xi220_ok : TabOK Go.Proofs.Tryz.prog [xi220] := tabOK1 Go.Proofs.Tryz.func220 (by kernel_rfl) (by kernel_rfl) rfl rfl
noncomputable def cf220 : FnC := (.mk 263119 26 (.many [qe5, q66]) (.seq (.rg (.op .no q5 qb (.op .no qb7 qm q67))) (.seq (.rg (.op .no qaj .loc (.op .no q45 .loc (.op .no q4u .loc (.op .no qe8 .loc q4j))))) (.seq (.seq qh5 (.cond q28 (.seq (.rg (.op .no qed .loc (.op .no q27 .loc qh6))) .ret) .skip)) (.seq (.rg (.op .no q45 .loc (.op .no q1f .loc (.op .no (.gen (.call (Call.mk (Callee.builtin Builtin.min) (Array.mk [(.tmp 21), (.tmp 22)]) (Array.mk [3, 3]))) (rfC 263119 [22, 21])) .loc (.op .no q4u .loc (.op .no qeb .loc (.op .no (.st 2 qn qf) .non q67))))))) .ret)))))
theorem cf220_ok : compF Go.Proofs.Tryz.prog xi220 = some cf220 := by kernel_rfl
noncomputable def xi221 := xiM 221 Go.Proofs.Tryz.f221 7
theorem xi221_ok : TabOK Go.Proofs.Tryz.prog [xi221] := tabOK1 Go.Proofs.Tryz.func221 (by kernel_rfl) (by kernel_rfl) rfl rfl
noncomputable def cf221 : FnC := (.mk 7 8 qh7 (.seq (.rg (.op .no qf0 q6 (.op .no qb7 q8 .fin))) (.seq (.rg (.op .no q2p .loc (.op .no q2q .loc (.op .no q2s .loc (.op .no q2q .loc (.op .no q3p .loc qgl)))))) .ret)))
theorem cf221_ok : compF Go.Proofs.Tryz.prog xi221 = some cf221 := by kernel_rfl
noncomputable def xi222 := xiM 222 Go.Proofs.Tryz.f222 543
theorem xi222_ok : TabOK Go.Proofs.Tryz.prog [xi222] := tabOK1 Go.Proofs.Tryz.func222 (by kernel_rfl) (by kernel_rfl) rfl rfl
noncomputable def cf222 : FnC := (.mk 543 22 qcx (.seq (.rg (.op .no (.box 107 q4) q8 (.op .no qh8 qb q3z))) (.seq (.seq (.rg (.op .no q61 .loc (.op .no q2q .loc (.op .no q6c .loc (.op .no q2q .loc (.op .no (.bin .neq 3 q22 qf) qp .fin)))))) (.cond qs (.seq (.rg (.op .no q61 .loc (.op .no q2q .loc (.op .no q6c .loc (.op .no q2q .loc (.op .no qfi .loc q3c)))))) .ret) .skip)) (.seq (.rg (.op .no qd0 .loc (.op .no q2q .loc (.op .no (.gen (.convert 5 3 (.tmp 16)) (rfC 543 [16, 15])) .loc (.op .no qd1 .loc (.op .no q2q .loc (.op .no (.gen (.convert 5 3 (.tmp 19)) (rfC 543 [19, 18, 17, 16, 15])) .loc (.op .no qfs .loc q3c)))))))) .ret))))
theorem cf222_ok : compF Go.Proofs.Tryz.prog xi222 = some cf222 := by kernel_rfl
noncomputable def xi223 := xiM 223 Go.Proofs.Tryz.f223 30767
theorem xi223_ok : TabOK Go.Proofs.Tryz.prog [xi223] := tabOK1 Go.Proofs.Tryz.func223 (by kernel_rfl) (by kernel_rfl) rfl rfl
noncomputable def cf223 : FnC := (.mk 30767 25 q2m (.seq (.rg (.op .no q7w q6 (.op .no (.mv (.lit (.con (.map Option.none)))) q8 .fin))) (.seq (.rg (.op .no qav .loc (.op .no q2q .loc (.op .no q1g .loc (.op .no (.gen (.makeMap 329 (Option.some (.tmp 8))) (rfC 30767 [8, 7, 6])) .loc q10))))) (.seq (.seq (.rg (.op .no qav .loc (.op .no q2q qp q92))) (.block 0 (.loop (.seq q93 (.seq q94 (.seq (.block 1 (.seq (.rg (.op .no (.ias 3 qs q26) .loc qf7)) (.rg (.op .no q4q .loc (.op .no qf8 .loc (.op .no q2q .loc (.op .no (.fadr 1 qn) .loc (.op .no q2q .loc (.op .no q3p .loc (.op .no (.gen (.mapUpdate 329 (.tmp 17) (.tmp 22) (.const (.bool true))) (rfC 30767 [22, 21, 20, 19, 18, 17])) .non .fin)))))))))) q9d)))))) qet))))
theorem cf223_ok : compF Go.Proofs.Tryz.prog xi223 = some cf223 := by kernel_rfl
noncomputable def xi224 := xiM 224 Go.Proofs.Tryz.f224 134239647
theorem xi224_ok : TabOK Go.Proofs.Tryz.prog [xi224] := tabOK1 Go.Proofs.Tryz.func224 (by kernel_rfl) (by kernel_rfl) rfl rfl
noncomputable def cf224 : FnC := (.mk 134239647 54 (.one (.cell 3 true qs)) (.seq (.rg (.op .no q6k qp .fin)) (.seq (.rg (.op .no q61 .loc (.op .no q5o .loc (.op .no q86 .loc (.op .no q45 .loc (.op .no qgx .loc (.op .no qg .loc (.op .no qh .loc (.op .no qj .loc (.op .no qb7 q19 (.op .no (.st 2 q1e qi) .non q6l))))))))))) (.seq (.seq (.rg (.op .no q9f .loc (.op .no (.ld 2 true q1e) .loc (.op .no (.gen (.lookup 329 (.tmp 24) (.tmp 25) false) (rfC 134239647 [25, 24])) .loc (.op .no q78 qv .fin))))) (.cond qy (.seq (.rg (.op .no (.ld 1 false qn) .loc (.op .no q86 .loc (.op .no qci .loc (.op .no q1z .loc qh9))))) .ret) .skip)) (.seq (.rg (.op .no q61 .loc (.op .no q5o .loc (.op .no (.ld 2 true q1e) .loc (.op .no (.call (.lit (.clo 225 [])) [qi, qf]) .loc (.op .no qg .loc (.op .no qh .loc (.op .no qj .loc (.op .no qha q1h (.op .no (.st 2 q26 qi) .non q6l)))))))))) (.seq (.rg (.op .no (.ld 2 true q26) .loc (.op .no q6j .loc (.op .no qg .loc (.op .no qh .loc (.op .no qj .loc (.op .no q6k q24 (.op .no qbl .non q6l)))))))) (.seq (.rgd (.op .no (.soft qbm) .loc (.op .no (.soft (.ld 1 false qn)) .loc (.op .no qc3 .loc (.op .no qcj .loc (.op .no qck .loc (.op .no (.hard (.call (.lit (.clo 58 [])) [q2e, qf])) .loc (.op .no q15 .loc (.op .no q16 .loc (.op .no (.alloc 28 [(.int .u8 (.ofNat 0)), (.int .i64 (.ofNat 0)), (.int .i64 (.ofNat 0))] 0) q21 (.op .no (.hard (.st 3 q25 qf)) .non qgo)))))))))) 2) (.seq (.rg (.op .no (.ld 3 true q25) .loc qh9)) .ret))))))))
theorem cf224_ok : compF Go.Proofs.Tryz.prog xi224 = some cf224 := by kernel_rfl
noncomputable def xi225 := xiM 225 Go.Proofs.Tryz.f225 33023
theorem xi225_ok : TabOK Go.Proofs.Tryz.prog [xi225] := tabOK1 Go.Proofs.Tryz.func225 (by kernel_rfl) (by kernel_rfl) rfl rfl
noncomputable def cf225 : FnC := (.mk 33023 24 (.many [qe5, q66]) (.seq (.rg (.op .no q5 q8 (.op .no qh8 qb (.op .no qha qm q67)))) (.seq (.rg (.op .no q40 .loc (.op .no qaj .loc (.op .no (.call (.lit (.clo 276 [])) [qi, qf]) .loc qc8)))) (.seq (.seq qh5 (.cond q28 (.seq (.rg (.op .no (.bld [] [(.int .u8 (.ofNat 0)), (.int .i64 (.ofNat 0))]) .loc (.op .no q27 .loc qh6))) .ret) .skip)) (.seq (.rg (.op .no qc9 .loc (.op .no qd1 .loc (.op .no q2q .loc (.op .no (.call (.lit (.clo 107 [])) [q22, qf]) .loc (.op .no qh .loc (.op .no qj .loc qh6))))))) .ret)))))
theorem cf225_ok : compF Go.Proofs.Tryz.prog xi225 = some cf225 := by kernel_rfl
noncomputable def xi226 := xiM 226 Go.Proofs.Tryz.f226 17179886351
theorem xi226_ok : TabOK Go.Proofs.Tryz.prog [xi226] := tabOK1 Go.Proofs.Tryz.func226 (by kernel_rfl) (by kernel_rfl) rfl rfl
noncomputable def cf226 : FnC := (.mk 17179886351 53 q90 (.seq qhb (.block 0 (.loop (.seq qhc (.seq (.block 1 (.seq qhd (.block 2 (.loop (.seq (.seq (.rgd (.op .no qgv .loc (.op .no q9c .loc (.op .no qhe .loc (.op .no q15 .loc (.op q5q qhf .loc (.op q5r qc3 .loc (.op q5s qgv .loc (.op q5t q8f .loc (.op q5u qg0 .loc (.op qfz qc3 .loc (.op qg1 qgv .loc (.op qg2 qfb .loc (.op qg3 qfy .loc (.op qg4 qg0 .loc qhi)))))))))))))) 0) qhj) (.seq (.block 3 (.rgd (.op .no qc3 .loc (.op .no qgv .loc (.op .no qc3 .loc (.op .no qgv .loc (.op .no qfb .loc (.op .no qfy .loc (.op .no qg0 .loc (.op .no qc3 .loc (.op .no qgv .loc (.op .no q8f .loc (.op .no qg0 .loc (.op .no qhk .loc (.op .no qhl .non (.op .no qc3 .loc (.op .no qgv .loc (.op .no qhm .loc qhn)))))))))))))))) 0)) qho)))))) qhp))))))
theorem cf226_ok : compF Go.Proofs.Tryz.prog xi226 = some cf226 := by kernel_rfl
noncomputable def xi229 := xiM 229 Go.Proofs.Tryz.f229 1333065575601045263
theorem xi229_ok : TabOK Go.Proofs.Tryz.prog [xi229] := tabOK1 Go.Proofs.Tryz.func229 (by kernel_rfl) (by kernel_rfl) rfl rfl
noncomputable def cf229 : FnC := (.mk 1333065575601045263 63 q7v (.seq (.rg qag) (.seq qhq (.seq qhs (.seq qht (.seq qhu (.seq qhv (.seq (.seq qhw (.cond q1d (.seq (.seq qhy (.cond q1k (.seq (.rg (.op .no q86 .loc (.op .no q29 .loc (.op .no q4q .loc (.op .no qhz .loc q60))))) (.seq (.rg (.op .no q86 .loc (.op .no q4s .loc (.op .no q4q .loc (.op .no qhz .loc q4l))))) (.rg (.op .no q86 .loc (.op .no q4w .loc (.op .no q4q .loc (.op .no qhz .loc q6d))))))) .skip)) (.rg (.op .no q86 .loc (.op .no q29 .loc (.op .no q4s .loc (.op .no q4w .loc (.op .no q4q .loc (.op .no (.call (.lit (.clo 281 [])) [q2e, q2l, q22, qi, q26, qf]) .loc q4l)))))))) .skip)) qi0))))))))
theorem cf229_ok : compF Go.Proofs.Tryz.prog xi229 = some cf229 := by kernel_rfl
noncomputable def xi231 := xiM 231 Go.Proofs.Tryz.f231 21268317252094917911888073248812900111
theorem xi231_ok : TabOK Go.Proofs.Tryz.prog [xi231] := tabOK1 Go.Proofs.Tryz.func231 (by kernel_rfl) (by kernel_rfl) rfl rfl
noncomputable def cf231 : FnC := (.mk 21268317252094917911888073248812900111 141 qcx (.seq qi1 (.seq qi2 (.seq (.seq (.rg q8r) (.block 0 (.loop (.seq qi3 (.seq (.block 1 (.seq (.block 2 (.loop (.seq (.seq (.rgd (.op .no qgv .loc (.op .no qbx .loc (.op .no (.soft q9w) .loc (.op .no q15 .loc (.op q5q qhf .loc (.op q5r qc3 .loc (.op q5s qgv .loc (.op q5t q8f .loc (.op q5u qg0 .loc (.op qfz qc3 .loc (.op qg1 qgv .loc (.op qg2 qfb .loc (.op qg3 qfy .loc (.op qg4 qg0 .loc qi4)))))))))))))) 0) qi5) qi6))) (.seq qi8 (.seq qia (.seq (.rgd (.op .no qc3 .loc (.op .no qgv .loc (.op .no qc3 .loc (.op .no qgv .loc (.op .no qfb .loc (.op .no qfy .loc (.op .no qg0 .loc (.op .no qc3 .loc (.op .no qgv .loc (.op .no q8f .loc (.op .no qg0 .loc (.op .no qhk .loc (.op .no qhl .non (.op .no qc3 .loc (.op .no qgv .loc (.op .no qib .loc qhn)))))))))))))))) 0) (.seq (.seq qic (.cond q1q (.seq qid (.block 4 (.loop (.seq qie (.seq (.block 5 (.seq (.seq (.rgd (.op .no qhf .loc (.op .no qc3 .loc (.op .no q2j .loc (.op .no q8f .loc (.op .no qg0 .loc (.op .no qc3 .loc (.op .no q2j .loc (.op .no qfb .loc (.op .no qfy .loc (.op .no qg0 .loc qif)))))))))) 0) (.cond q1u qdb .skip)) (.rgd (.op .no qc3 .loc (.op .no q2j .loc (.op .no qc3 .loc (.op .no q2j .loc (.op .no qfb .loc (.op .no qfy .loc (.op .no qg0 .loc (.op .no qc3 .loc (.op .no q2j .loc (.op .no q8f .loc (.op .no qg0 .loc (.op .no qhk .loc (.op .no qhl .non (.op .no qc3 .loc (.op .no q2j .loc (.op .no qig .loc qhn)))))))))))))))) 0))) qih))))) .skip)) (.seq qii (.cond q5f (.seq qij (.block 6 (.loop (.seq qik (.seq (.block 7 (.seq (.seq (.rgd (.op .no qhf .loc (.op .no qc3 .loc (.op .no qch .loc (.op .no q8f .loc (.op .no qg0 .loc (.op .no qc3 .loc (.op .no qch .loc (.op .no qfb .loc (.op .no qfy .loc (.op .no qg0 .loc qil)))))))))) 0) (.cond q5k qdc .skip)) (.rgd (.op .no qc3 .loc (.op .no qch .loc (.op .no qc3 .loc (.op .no qch .loc (.op .no qfb .loc (.op .no qfy .loc (.op .no qg0 .loc (.op .no qc3 .loc (.op .no qch .loc (.op .no q8f .loc (.op .no qg0 .loc (.op .no qhk .loc (.op .no qhl .non (.op .no qc3 .loc (.op .no qch .loc (.op .no qim .loc qhn)))))))))))))))) 0))) qin))))) .skip)))))))) qio))))) qi9))))
theorem cf231_ok : compF Go.Proofs.Tryz.prog xi231 = some cf231 := by kernel_rfl
noncomputable def xi232 := xiM 232 Go.Proofs.Tryz.f232 1217485249602318769183
theorem xi232_ok : TabOK Go.Proofs.Tryz.prog [xi232] := tabOK1 Go.Proofs.Tryz.func232 (by kernel_rfl) (by kernel_rfl) rfl rfl
noncomputable def cf232 : FnC := (.mk 1217485249602318769183 90 qgm (.seq (.rg q67) (.seq qir (.seq qis (.seq (.block 0 (.loop (.block 1 (.seq (.block 2 (.loop (.seq (.seq (.rgd (.op .no q8d .loc (.op .no q2j .loc (.op .no qit .loc (.op .no q15 .loc (.op q5q q8c .loc (.op q5r qc3 .loc (.op q5s q9c .loc (.op q5t q8f .loc (.op q5u qg0 .loc (.op qfz qc3 .loc (.op qg1 q8d .loc (.op qg2 q8f .loc (.op qg3 qg0 .loc qiv))))))))))))) 0) qh2) (.block 3 qio)))) (.seq (.block 4 (.loop (.seq (.seq (.rgd (.op .no q8d .loc (.op .no q2j .loc (.op .no qit .loc (.op .no q15 .loc (.op q5q q8c .loc (.op q5r qc3 .loc (.op q5s q9c .loc (.op q5t q8f .loc (.op q5u qg0 .loc (.op qfz qc3 .loc (.op qg1 q2j .loc qiy))))))))))) 0) qh3) (.block 5 qih)))) (.seq qiz (.seq (.rgd (.op .no qc3 .loc (.op .no q8d .loc (.op .no qc3 .loc (.op .no q2j .loc (.op .no q8f .loc (.op .no qg0 .loc (.op .no qc3 .loc (.op .no q8d .loc (.op .no q8f .loc (.op .no qg0 .loc (.op .no qip .loc (.op .no qhl .non (.op .no qc3 .loc (.op .no q2j .loc qiq)))))))))))))) 0) (.seq qio qih)))))))) qj0)))))
theorem cf232_ok : compF Go.Proofs.Tryz.prog xi232 = some cf232 := by kernel_rfl
noncomputable def xi233 := xiM 233 Go.Proofs.Tryz.f233 22997644815212700899627017342834150232570911
theorem xi233_ok : TabOK Go.Proofs.Tryz.prog [xi233] := tabOK1 Go.Proofs.Tryz.func233 (by kernel_rfl) (by kernel_rfl) rfl rfl
noncomputable def cf233 : FnC := (.mk 22997644815212700899627017342834150232570911 178 qd6 (.seq qj1 (.seq qir (.seq qj2 (.seq (.block 0 (.loop (.seq (.seq (.rgd (.op .no q2j .loc (.op .no qch .loc (.op .no qit .loc (.op .no q15 .loc (.op q5q q8c .loc (.op q5r qc3 .loc (.op q5s q2j .loc (.op q5t q8f .loc (.op q5u qg0 .loc (.op qfz qc3 .loc (.op qg1 q9c .loc qiy))))))))))) 0) qco) (.block 1 qfe)))) (.seq (.block 2 (.loop (.seq (.seq (.rgd (.op .no q2j .loc (.op .no qch .loc (.op .no qit .loc (.op .no q15 .loc (.op q5q q8c .loc (.op q5r qc3 .loc (.op q5s qch .loc (.op q5t q8f .loc (.op q5u qg0 .loc (.op qfz qc3 .loc (.op qg1 q9c .loc (.op qg2 q8f .loc (.op qg3 qg0 .loc qj3))))))))))))) 0) qi5) (.block 3 qj4)))) (.seq (.seq qj5 (.cond q1d (.seq qj6 qj7) .skip)) (.seq qj8 (.seq qfe (.seq qj4 (.seq (.block 4 (.loop (.block 5 (.seq (.block 6 (.loop (.seq (.seq (.rgd (.op .no q2j .loc (.op .no qch .loc (.op .no qit .loc (.op .no q15 .loc (.op q5q q8c .loc (.op q5r qc3 .loc (.op q5s q2j .loc (.op q5t q8f .loc (.op q5u qg0 .loc (.op qfz qc3 .loc (.op qg1 q9c .loc (.op qg2 q8f .loc (.op qg3 qg0 .loc qj9))))))))))))) 0) (.cond q1k .skip qdc)) (.block 7 qfe)))) (.seq (.block 8 (.loop (.seq (.seq (.rgd (.op .no q2j .loc (.op .no qch .loc (.op .no qit .loc (.op .no q15 .loc (.op q5q q8c .loc (.op q5r qc3 .loc (.op q5s qch .loc (.op q5t q8f .loc (.op q5u qg0 .loc (.op qfz qc3 .loc (.op qg1 q9c .loc (.op qg2 q8f .loc (.op qg3 qg0 .loc qja))))))))))))) 0) qjb) (.block 9 qj4)))) (.seq qjc (.seq qj8 (.seq qfe qj4)))))))) (.seq qj6 qjd))))))))))))
theorem cf233_ok : compF Go.Proofs.Tryz.prog xi233 = some cf233 := by kernel_rfl
noncomputable def xi235 := xiM 235 Go.Proofs.Tryz.f235 16661
theorem xi235_ok : TabOK Go.Proofs.Tryz.prog [xi235] := tabOK1 Go.Proofs.Tryz.func235 (by kernel_rfl) (by kernel_rfl) rfl rfl
noncomputable def cf235 : FnC := (.mk 16661 25 q9j (.seq q9k (.seq (.seq (.rg (.op .no q86 .loc (.op .no (.bin .geq 343 qf (.lit (.int .u64 (.ofNat 4294967296)))) q8 .fin))) (.cond q0 (.seq (.rg (.op .no q86 .loc (.op .no (.bin .shr 343 qf (.lit (.int .u64 (.ofNat 32)))) .loc q5w))) (.rg (.op .no (.mv (.lit (.int .i64 (.ofNat 32)))) q6 .fin))) .skip)) (.seq (.seq (.rg (.op .no q86 .loc (.op .no (.bin .geq 343 qf (.lit (.int .u64 (.ofNat 65536)))) qb .fin))) (.cond q2 (.seq (.rg (.op .no q86 .loc (.op .no (.bin .shr 343 qf (.lit (.int .u64 (.ofNat 16)))) .loc q5w))) (.rg (.op .no q45 .loc (.op .no (.bin .add 3 qf (.lit (.int .i64 (.ofNat 16)))) .loc q9o)))) .skip)) (.seq (.seq (.rg (.op .no q86 .loc (.op .no (.bin .geq 343 qf (.lit (.int .u64 (.ofNat 256)))) qm .fin))) (.cond qn (.seq (.rg (.op .no q86 .loc (.op .no (.bin .shr 343 qf (.lit (.int .u64 (.ofNat 8)))) .loc q5w))) (.rg (.op .no q45 .loc (.op .no (.bin .add 3 qf qew) .loc q9o)))) .skip)) (.seq (.rg (.op .no q45 .loc (.op .no q86 .loc (.op .no (.gen (.convert 343 5 (.tmp 20)) (rfC 16661 [20, 19])) .loc (.op .no (.gen (.index 9 (.const (.string (ByteArray.mk (Array.mk [(UInt8.ofNat 0), (UInt8.ofNat 1), (UInt8.ofNat 2), (UInt8.ofNat 2), (UInt8.ofNat 3), (UInt8.ofNat 3), (UInt8.ofNat 3), (UInt8.ofNat 3), (UInt8.ofNat 4), (UInt8.ofNat 4), (UInt8.ofNat 4), (UInt8.ofNat 4), (UInt8.ofNat 4), (UInt8.ofNat 4), (UInt8.ofNat 4), (UInt8.ofNat 4), (UInt8.ofNat 5), (UInt8.ofNat 5), (UInt8.ofNat 5), (UInt8.ofNat 5), (UInt8.ofNat 5), (UInt8.ofNat 5), (UInt8.ofNat 5), (UInt8.ofNat 5), (UInt8.ofNat 5), (UInt8.ofNat 5), (UInt8.ofNat 5), (UInt8.ofNat 5), (UInt8.ofNat 5), (UInt8.ofNat 5), (UInt8.ofNat 5), (UInt8.ofNat 5), (UInt8.ofNat 6), (UInt8.ofNat 6), (UInt8.ofNat 6), (UInt8.ofNat 6), (UInt8.ofNat 6), (UInt8.ofNat 6), (UInt8.ofNat 6), (UInt8.ofNat 6), (UInt8.ofNat 6), (UInt8.ofNat 6), (UInt8.ofNat 6), (UInt8.ofNat 6), (UInt8.ofNat 6), (UInt8.ofNat 6), (UInt8.ofNat 6), (UInt8.ofNat 6), (UInt8.ofNat 6), (UInt8.ofNat 6), (UInt8.ofNat 6), (UInt8.ofNat 6), (UInt8.ofNat 6), (UInt8.ofNat 6), (UInt8.ofNat 6), (UInt8.ofNat 6), (UInt8.ofNat 6), (UInt8.ofNat 6), (UInt8.ofNat 6), (UInt8.ofNat 6), (UInt8.ofNat 6), (UInt8.ofNat 6), (UInt8.ofNat 6), (UInt8.ofNat 6), (UInt8.ofNat 7), (UInt8.ofNat 7), (UInt8.ofNat 7), (UInt8.ofNat 7), (UInt8.ofNat 7), (UInt8.ofNat 7), (UInt8.ofNat 7), (UInt8.ofNat 7), (UInt8.ofNat 7), (UInt8.ofNat 7), (UInt8.ofNat 7), (UInt8.ofNat 7), (UInt8.ofNat 7), (UInt8.ofNat 7), (UInt8.ofNat 7), (UInt8.ofNat 7), (UInt8.ofNat 7), (UInt8.ofNat 7), (UInt8.ofNat 7), (UInt8.ofNat 7), (UInt8.ofNat 7), (UInt8.ofNat 7), (UInt8.ofNat 7), (UInt8.ofNat 7), (UInt8.ofNat 7), (UInt8.ofNat 7), (UInt8.ofNat 7), (UInt8.ofNat 7), (UInt8.ofNat 7), (UInt8.ofNat 7), (UInt8.ofNat 7), (UInt8.ofNat 7), (UInt8.ofNat 7), (UInt8.ofNat 7), (UInt8.ofNat 7), (UInt8.ofNat 7), (UInt8.ofNat 7), (UInt8.ofNat 7), (UInt8.ofNat 7), (UInt8.ofNat 7), (UInt8.ofNat 7), (UInt8.ofNat 7), (UInt8.ofNat 7), (UInt8.ofNat 7), (UInt8.ofNat 7), (UInt8.ofNat 7), (UInt8.ofNat 7), (UInt8.ofNat 7), (UInt8.ofNat 7), (UInt8.ofNat 7), (UInt8.ofNat 7), (UInt8.ofNat 7), (UInt8.ofNat 7), (UInt8.ofNat 7), (UInt8.ofNat 7), (UInt8.ofNat 7), (UInt8.ofNat 7), (UInt8.ofNat 7), (UInt8.ofNat 7), (UInt8.ofNat 7), (UInt8.ofNat 7), (UInt8.ofNat 7), (UInt8.ofNat 7), (UInt8.ofNat 7), (UInt8.ofNat 8), (UInt8.ofNat 8), (UInt8.ofNat 8), (UInt8.ofNat 8), (UInt8.ofNat 8), (UInt8.ofNat 8), (UInt8.ofNat 8), (UInt8.ofNat 8), (UInt8.ofNat 8), (UInt8.ofNat 8), (UInt8.ofNat 8), (UInt8.ofNat 8), (UInt8.ofNat 8), (UInt8.ofNat 8), (UInt8.ofNat 8), (UInt8.ofNat 8), (UInt8.ofNat 8), (UInt8.ofNat 8), (UInt8.ofNat 8), (UInt8.ofNat 8), (UInt8.ofNat 8), (UInt8.ofNat 8), (UInt8.ofNat 8), (UInt8.ofNat 8), (UInt8.ofNat 8), (UInt8.ofNat 8), (UInt8.ofNat 8), (UInt8.ofNat 8), (UInt8.ofNat 8), (UInt8.ofNat 8), (UInt8.ofNat 8), (UInt8.ofNat 8), (UInt8.ofNat 8), (UInt8.ofNat 8), (UInt8.ofNat 8), (UInt8.ofNat 8), (UInt8.ofNat 8), (UInt8.ofNat 8), (UInt8.ofNat 8), (UInt8.ofNat 8), (UInt8.ofNat 8), (UInt8.ofNat 8), (UInt8.ofNat 8), (UInt8.ofNat 8), (UInt8.ofNat 8), (UInt8.ofNat 8), (UInt8.ofNat 8), (UInt8.ofNat 8), (UInt8.ofNat 8), (UInt8.ofNat 8), (UInt8.ofNat 8), (UInt8.ofNat 8), (UInt8.ofNat 8), (UInt8.ofNat 8), (UInt8.ofNat 8), (UInt8.ofNat 8), (UInt8.ofNat 8), (UInt8.ofNat 8), (UInt8.ofNat 8), (UInt8.ofNat 8), (UInt8.ofNat 8), (UInt8.ofNat 8), (UInt8.ofNat 8), (UInt8.ofNat 8), (UInt8.ofNat 8), (UInt8.ofNat 8), (UInt8.ofNat 8), (UInt8.ofNat 8), (UInt8.ofNat 8), (UInt8.ofNat 8), (UInt8.ofNat 8), (UInt8.ofNat 8), (UInt8.ofNat 8), (UInt8.ofNat 8), (UInt8.ofNat 8), (UInt8.ofNat 8), (UInt8.ofNat 8), (UInt8.ofNat 8), (UInt8.ofNat 8), (UInt8.ofNat 8), (UInt8.ofNat 8), (UInt8.ofNat 8), (UInt8.ofNat 8), (UInt8.ofNat 8), (UInt8.ofNat 8), (UInt8.ofNat 8), (UInt8.ofNat 8), (UInt8.ofNat 8), (UInt8.ofNat 8), (UInt8.ofNat 8), (UInt8.ofNat 8), (UInt8.ofNat 8), (UInt8.ofNat 8), (UInt8.ofNat 8), (UInt8.ofNat 8), (UInt8.ofNat 8), (UInt8.ofNat 8), (UInt8.ofNat 8), (UInt8.ofNat 8), (UInt8.ofNat 8), (UInt8.ofNat 8), (UInt8.ofNat 8), (UInt8.ofNat 8), (UInt8.ofNat 8), (UInt8.ofNat 8), (UInt8.ofNat 8), (UInt8.ofNat 8), (UInt8.ofNat 8), (UInt8.ofNat 8), (UInt8.ofNat 8), (UInt8.ofNat 8), (UInt8.ofNat 8), (UInt8.ofNat 8), (UInt8.ofNat 8), (UInt8.ofNat 8), (UInt8.ofNat 8), (UInt8.ofNat 8), (UInt8.ofNat 8), (UInt8.ofNat 8), (UInt8.ofNat 8), (UInt8.ofNat 8), (UInt8.ofNat 8), (UInt8.ofNat 8), (UInt8.ofNat 8), (UInt8.ofNat 8), (UInt8.ofNat 8), (UInt8.ofNat 8), (UInt8.ofNat 8)])))) (.tmp 21)) (rfC 16661 [21, 20, 19])) .loc (.op .no (.gen (.convert 5 3 (.tmp 22)) (rfC 16661 [22, 21, 20, 19])) .loc (.op .no (.bin .add 3 q2e qf) .loc q9o))))))) .ret))))))
theorem cf235_ok : compF Go.Proofs.Tryz.prog xi235 = some cf235 := by kernel_rfl
noncomputable def xi236 := xiM 236 Go.Proofs.Tryz.f236 4956738642830796146778615803
theorem xi236_ok : TabOK Go.Proofs.Tryz.prog [xi236] := tabOK1 Go.Proofs.Tryz.func236 (by kernel_rfl) (by kernel_rfl) rfl rfl
noncomputable def cf236 : FnC := (.mk 4956738642830796146778615803 93 qab (.seq (.rg (.op .no (.box 23 qd) q8 qc)) (.seq (.seq (.rg (.op .no q40 .loc (.op .no q7r .loc q3c))) (.seq (.rg (.op .no q3d .loc qaq)) (.cond q1q qje .skip))) (.seq (.rg (.op .no q40 .loc (.op .no qd7 .loc (.op .no qhr qp qff)))) (.seq (.seq (.rg (.op .no q86 q1m qas)) (.block 0 (.loop (.seq q8l (.seq (.cond q5j .skip q1v) (.seq (.block 1 (.seq (.rg (.op .no q5g .loc (.op .no (.ias 4 q1p q5f) .loc qbk))) (.seq (.rg (.op .no (.fadr 3 q26) .loc (.op .no q2q .loc (.op .no (.gen (.makeFunc (Fn.func 282) (Array.mk []) (Array.mk [(.tmp 6)])) (rfC 4956738642830796146778615803 [31, 30])) .loc (.op .no qgn .loc q60))))) (.seq (.rgd (.op .no (.soft q3n) .loc (.op .no qck .loc (.op .no (.hard qey) .loc (.op .no (.soft qu) .loc (.op .no q15 .loc (.op q2r q8d .loc (.op q2t qfx .loc (.op q2u q15 .loc (.op q5q qc3 .loc (.op q5r q8d .loc (.op q5s qfb .loc (.op q5t qfy .loc (.op q5u q99 .loc (.op qfz qck .loc (.op qg1 (.soft q3n) .loc (.op qg2 qck .loc (.op qg3 (.hard qcy) .loc (.op qg4 (.soft qc5) .loc (.op (.yes (.loc qdw) false) qjf .loc (.op .no (.soft (.pick (.loc (.s qdw)) q2v qf)) .loc (.op .no q15 .loc (.op q2r (.soft (.fadr 3 q26)) .loc (.op q2t q6z .loc (.op q2u (.soft q1g) .loc (.op q2z (.soft q6e) .loc (.op .no (.soft q3w) .loc (.op .no q15 .loc (.op q2r qch .loc (.op .no (.soft (.pick qi q2v qf)) q5c .fin))))))))))))))))))))))))))))) 0) (.cond q5k qac .skip))))) q8o)))))) (.seq (.rg (.op .no qef .loc (.op .no (.gen (.makeSlice 98 (.tmp 64) (.tmp 64)) (rfC 4956738642830796146778615803 [64])) .loc q4l))) (.seq (.rg (.op .no qa qv .fin)) (.seq (.seq (.rg (.op .no q86 q5e (.op .no (.len q5h) q51 (.op .no qa q5m .fin)))) (.block 2 (.loop (.seq (.rg (.op .no (.bin .lss 3 q5n q52) q6f .fin)) (.seq (.cond q6g .skip q8m) (.seq (.block 3 (.seq (.rg (.op .no (.ias 4 q5h q5n) .loc (.op .no q89 .loc (.op .no q8a q1b (.op .no (.st 4 q1d qf) .non .fin))))) (.seq (.rg (.op .no (.fadr 3 q1d) .loc (.op .no q2q q6p qdn))) (.block 4 (.loop (.seq qdo (.seq (.cond q76 .skip qdb) (.seq (.block 5 (.seq (.rg (.op .no (.ias 1 q6q q72) .loc (.op .no q2q .loc q64))) (.seq (.seq (.rg (.op .no q4s .loc (.op .no q5z .loc (.op .no qat .loc (.op .no q2q q79 .fin))))) (.cond q7a (.seq (.rg (.op .no (.mv qew) qb .fin)) .ret) .skip)) (.seq (.rg (.op .no q4s .loc (.op .no q5z .loc (.op .no qat .loc qfg)))) (.rg (.op .no q4w .loc (.op .no qae .loc q6d))))))) qdy)))))))) (.rg (.op .no (.bin .add 3 q5n q2g) .loc (.op .no qg q5m .fin))))))))) (.seq (.seq (.rg (.op .no q4w .loc (.op .no qef .loc (.op .no q9w q7c .fin)))) (.cond q7d (.seq (.rg (.op .no qfd qb .fin)) .ret) .skip)) qad)))))))))
theorem cf236_ok : compF Go.Proofs.Tryz.prog xi236 = some cf236 := by kernel_rfl
noncomputable def xi237 := xiM 237 Go.Proofs.Tryz.f237 23
theorem xi237_ok : TabOK Go.Proofs.Tryz.prog [xi237] := tabOK1 Go.Proofs.Tryz.func237 (by kernel_rfl) (by kernel_rfl) rfl rfl
noncomputable def cf237 : FnC := (.mk 23 12 qab (.seq (.rg (.op .no q4b qb .fin)) (.seq (.rgd (.op .no (.soft qc2) .loc (.op .no qc3 .loc (.op .no qcj .loc (.op .no qck .loc (.op .no q98 .loc (.op .no qck .loc (.op .no (.soft (.bin .neq 59 q22 qf)) .loc (.op .no q15 qb .fin)))))))) 0) .ret)))
theorem cf237_ok : compF Go.Proofs.Tryz.prog xi237 = some cf237 := by kernel_rfl
noncomputable def xi238 := xiM 238 Go.Proofs.Tryz.f238 8390903
theorem xi238_ok : TabOK Go.Proofs.Tryz.prog [xi238] := tabOK1 Go.Proofs.Tryz.func238 (by kernel_rfl) (by kernel_rfl) rfl rfl
noncomputable def cf238 : FnC := (.mk 8390903 49 qgm (.seq (.rg (.op .no qcz qb (.op .no (.box 59 q0) qm (.op .no (.mv qjg) qp .fin)))) (.seq (.seq (.rg (.op .no q80 .loc (.op .no q13 .loc (.op .no (.call (.lit (.clo 93 [])) [qi, qf]) .loc (.op .no qeh q1h .fin))))) (.cond q26 (.rg (.op .no q13 .loc (.op .no q80 .loc (.op .no (.st 3 q2 qi) .non q97)))) .skip)) (.seq (.rg (.op .no q80 .loc (.op .no q13 .loc (.op .no (.bld [(.mk 0 3 qi), (.mk 3 3 qf)] [(.int .i64 (.ofNat 0)), (.int .i64 (.ofNat 0)), (.int .u8 (.ofNat 0)), (.int .i64 (.ofNat 0)), (.int .i64 (.ofNat 0)), (.int .u8 (.ofNat 0))]) .loc (.op .no qdk q19 (.op .no (.st 6 q1e qf) .non .fin)))))) (.seq (.seq (.rgd (.op .no qc3 .loc (.op .no qdl .loc (.op .no qdm .loc (.op .no q6z .loc (.op .no qjh .loc (.op .no (.soft (.gen (.lookup 278 (.tmp 20) (.tmp 21) false) (rfR 8390903 [21, 20, 19, 18, 17] [20, 21]))) .loc (.op .no (.soft (.bin .eql 287 qf qjg)) q24 .fin))))))) 0) (.cond q28 (.seq (.rgd (.op .no qc3 .loc (.op .no qdl .loc (.op .no qdm .loc (.op .no q6z .loc (.op .no qjh .loc (.op .no (.soft q80) .loc (.op .no q9b .loc (.op .no (.soft (.bld [(.mk 0 3 qi), (.mk 3 3 qf)] [(.int .i64 (.ofNat 0)), (.int .i64 (.ofNat 0)), (.int .u8 (.ofNat 0)), (.int .i64 (.ofNat 0)), (.int .i64 (.ofNat 0)), (.int .u8 (.ofNat 0)), (.con (.slice Option.none 0 0)), (.con (.slice Option.none 0 0)), (.con (.slice Option.none 0 0))])) .loc (.op .no (.box 183 qf 0) .loc (.op .no (.hard (.gen (.mapUpdate 278 (.tmp 27) (.tmp 28) (.tmp 32)) (rfR 8390903 [32, 31, 30, 29, 28, 27, 26, 25, 24] [27, 28, 32]))) .non .fin)))))))))) 2) (.rgd (.op .no qc3 .loc (.op .no qdl .loc (.op .no (.soft qdd) .loc (.op .no q6z .loc (.op .no qjh .loc (.op .no (.bsl 284 1 6 [qf] 0) .loc (.op .no (.hard (.app 279 284 6 48 q22 qf)) .loc (.op .no qc3 .loc (.op .no qdl .loc (.op .no (.soft qdd) .loc (.op .no (.hard (.st 1 qf q2l)) .non .fin))))))))))) 2)) .skip)) (.seq (.rgd (.op .no qc3 .loc (.op .no qdl .loc (.op .no qdm .loc (.op .no q6z .loc (.op .no qjh .loc (.op .no (.soft (.gen (.lookup 278 (.tmp 46) (.tmp 47) false) (rfR 8390903 [47, 46, 45, 44, 43] [46, 47]))) .loc q1a)))))) 0) .ret))))))
theorem cf238_ok : compF Go.Proofs.Tryz.prog xi238 = some cf238 := by kernel_rfl
noncomputable def xi239 := xiM 239 Go.Proofs.Tryz.f239 42535296023574879666274036850519702559
theorem xi239_ok : TabOK Go.Proofs.Tryz.prog [xi239] := tabOK1 Go.Proofs.Tryz.func239 (by kernel_rfl) (by kernel_rfl) rfl rfl
noncomputable def cf239 : FnC := (.mk 42535296023574879666274036850519702559 148 q90 (.seq qdt (.seq qfk (.block 0 (.loop (.block 1 (.seq qfl (.seq (.seq qfm (.cond q5f (.seq (.rg (.op .no q86 .loc (.op .no q45 .loc (.op .no q4u .loc (.op .no q3d .loc (.op .no (.call (.lit (.clo 283 [])) [q2l, q22, qi, qf]) .loc .fin)))))) .ret) .skip)) (.seq (.seq qfo (.cond q5j (.seq (.rg (.op .no q86 .loc (.op .no q45 .loc (.op .no q4u .loc (.op .no q3d .loc (.op .no (.call (.lit (.clo 284 [])) [q2l, q22, qi, qf]) .loc .fin)))))) .ret) .skip)) (.seq (.seq qfp (.cond q5k (.seq (.rg (.op .no q86 .loc (.op .no q45 .loc (.op .no q4u .loc (.op .no q3d .loc (.op .no (.call (.lit (.clo 285 [])) [q2l, q22, qi, qf]) .loc .fin)))))) qfq) .skip)) (.seq (.rg (.op .no q86 .loc (.op .no q45 .loc (.op .no q4u .loc (.op .no q3d .loc (.op .no (.call (.lit (.clo 286 [])) [q2l, q22, qi, qf]) .loc q4m)))))) (.seq (.seq qfr (.cond q5h (.seq (.rg (.op .no q86 .loc (.op .no q45 .loc (.op .no q4u .loc (.op .no q3d .loc (.op .no (.call (.lit (.clo 287 [])) [q2l, q22, qi, qf]) .loc .fin)))))) qft) .skip)) (.seq (.seq qfv (.cond q52 (.seq (.rg (.op .no q86 .loc (.op .no q45 .loc (.op .no q4u .loc (.op .no q3d .loc (.op .no (.call (.lit (.clo 288 [])) [q2l, q22, qi, qf]) q5m .fin)))))) qfw) .skip)) (.seq (.seq (.rgd (.op .no q9c .loc (.op .no qfx .loc (.op .no q15 .loc (.op q5q q8c .loc (.op q5r qc3 .loc (.op q5s q9c .loc (.op q5t qfb .loc (.op q5u qji .loc (.op qfz qjj .loc (.op qg1 qc3 .loc (.op qg2 qch .loc (.op qg3 qjk .loc (.op qg4 qjj .loc qg9))))))))))))) 0) (.cond q6g (.seq (.rg (.op .no q86 .loc (.op .no q45 .loc (.op .no q4u .loc (.op .no q29 .loc (.op .no q3d .loc (.op .no (.call (.lit (.clo 289 [])) [q2e, q2l, q22, qi, qf]) .loc q6d))))))) qga) .skip)) (.seq (.rg (.op .no q86 .loc (.op .no q45 .loc (.op .no q4u .loc (.op .no q29 .loc (.op .no q3d .loc (.op .no (.call (.lit (.clo 290 [])) [q2e, q2l, q22, qi, qf]) .loc qfh))))))) (.seq qgb (.seq qgc (.seq qgd (.seq qge (.cond q6q (.seq qgh (.seq (.rg (.op .no q86 .loc (.op .no q45 .loc (.op .no q4t .loc (.op .no q4q .loc (.op .no q3d .loc (.op .no (.call qgu [q2e, q2l, q22, qi, qf]) .loc .fin))))))) qgi)) (.seq qgj (.seq (.rg (.op .no q86 .loc (.op .no q4t .loc (.op .no qae .loc (.op .no q4u .loc (.op .no q4q .loc (.op .no q3d .loc (.op .no (.call qgu [q2d, q2l, q22, qi, qf]) .loc .fin)))))))) qgk))))))))))))))))))))))
theorem cf239_ok : compF Go.Proofs.Tryz.prog xi239 = some cf239 := by kernel_rfl
noncomputable def xi240 := xiM 240 Go.Proofs.Tryz.f240 19
theorem xi240_ok : TabOK Go.Proofs.Tryz.prog [xi240] := tabOK1 Go.Proofs.Tryz.func240 (by kernel_rfl) (by kernel_rfl) rfl rfl
noncomputable def cf240 : FnC := (.mk 19 14 q90 (.seq qct (.rg (.op .no q86 .loc (.op .no q4u .loc (.op .no q4u .loc (.op .no qcu .loc (.op .no qcv .loc (.op .no q45 .loc (.op .no (.call qjl [q2d, q9, q2e, qi, qf]) .loc .fin))))))))))
theorem cf240_ok : compF Go.Proofs.Tryz.prog xi240 = some cf240 := by kernel_rfl
noncomputable def xi241 := xiM 241 Go.Proofs.Tryz.f241 63
theorem xi241_ok : TabOK Go.Proofs.Tryz.prog [xi241] := tabOK1 Go.Proofs.Tryz.func241 (by kernel_rfl) (by kernel_rfl) rfl rfl
noncomputable def cf241 : FnC := (.mk 63 23 qgm (.seq (.rg (.op .no (.box 347 q4) qb (.op .no (.box 347 qd) qm q67))) (.seq (.rgd (.op .no (.soft q9e) .loc (.op .no qdl .loc (.op .no qgs .loc (.op .no q6z .loc (.op .no qal .loc (.op .no q6z .loc (.op .no qb9 .loc (.op .no q6z .loc (.op .no (.soft q9e) .loc (.op .no qdl .loc (.op .no qgs .loc (.op .no q6z .loc (.op .no (.soft qf8) .loc (.op .no q6z .loc (.op .no qb9 .loc (.op .no q6z .loc (.op .no qjm .loc q1a))))))))))))))))) 0) .ret)))
theorem cf241_ok : compF Go.Proofs.Tryz.prog xi241 = some cf241 := by kernel_rfl
noncomputable def xi242 := xiM 242 Go.Proofs.Tryz.f242 19
theorem xi242_ok : TabOK Go.Proofs.Tryz.prog [xi242] := tabOK1 Go.Proofs.Tryz.func242 (by kernel_rfl) (by kernel_rfl) rfl rfl
noncomputable def cf242 : FnC := (.mk 19 14 q90 (.seq qct (.rg (.op .no q86 .loc (.op .no q4u .loc (.op .no q4u .loc (.op .no qcu .loc (.op .no qcv .loc (.op .no q45 .loc (.op .no (.call qjn [q2d, q9, q2e, qi, qf]) .loc .fin))))))))))
theorem cf242_ok : compF Go.Proofs.Tryz.prog xi242 = some cf242 := by kernel_rfl
noncomputable def xi243 := xiM 243 Go.Proofs.Tryz.f243 63
theorem xi243_ok : TabOK Go.Proofs.Tryz.prog [xi243] := tabOK1 Go.Proofs.Tryz.func243 (by kernel_rfl) (by kernel_rfl) rfl rfl
noncomputable def cf243 : FnC := (.mk 63 30 qgm (.seq (.rg (.op .no (.box 186 q4) qb (.op .no (.box 186 qd) qm q67))) (.seq (.rgd (.op .no qal .loc (.op .no q6z .loc (.op .no (.soft qf8) .loc (.op .no q6z .loc (.op .no qf1 .loc (.op .no (.softw q9e 1 (.load 276 (.tmp 2)) (rfR 63 [10, 9, 8, 7, 6] [2])) .loc (.op .no qdl .loc (.op .no qgs .loc (.op .no (.softw q2q 1 (.load 50 (.tmp 13)) (rfR 63 [13, 12, 11, 10, 9, 8, 7, 6] [13])) .loc (.op .no qe6 .loc (.op .no (.softw q2q 1 (.load 3 (.tmp 15)) (rfR 63 [15, 14, 13, 12, 11, 10, 9, 8, 7, 6] [15])) .loc (.op .no (.softw qb8 1 (.indexAddr 50 (.tmp 14) (.tmp 16)) (rfR 63 [16, 15, 14, 13, 12, 11, 10, 9, 8, 7, 6] [14, 16])) .loc (.op .no (.softw q2q 1 (.load 3 (.tmp 17)) (rfR 63 [17, 16, 15, 14, 13, 12, 11, 10, 9, 8, 7, 6] [17])) .loc (.op .no (.softw q9e 1 (.load 276 (.tmp 2)) (rfR 63 [18, 17, 16, 15, 14, 13, 12, 11, 10, 9, 8, 7, 6] [2])) .loc (.op .no qdl .loc (.op .no qgs .loc (.op .no (.softw q2q 1 (.load 50 (.tmp 21)) (rfR 63 [21, 20, 19, 18, 17, 16, 15, 14, 13, 12, 11, 10, 9, 8, 7, 6] [21])) .loc (.op .no (.soft (.fadr 1 qn)) .loc (.op .no (.softw q2q 1 (.load 3 (.tmp 23)) (rfR 63 [23, 22, 21, 20, 19, 18, 17, 16, 15, 14, 13, 12, 11, 10, 9, 8, 7, 6] [23])) .loc (.op .no (.softw qb8 1 (.indexAddr 50 (.tmp 22) (.tmp 24)) (rfR 63 [24, 23, 22, 21, 20, 19, 18, 17, 16, 15, 14, 13, 12, 11, 10, 9, 8, 7, 6] [22, 24])) .loc (.op .no (.softw q2q 1 (.load 3 (.tmp 25)) (rfR 63 [25, 24, 23, 22, 21, 20, 19, 18, 17, 16, 15, 14, 13, 12, 11, 10, 9, 8, 7, 6] [25])) .loc (.op .no qjm .loc (.op .no (.bsl 3 2 1 [(.loc (.s (.s (.s (.s qdw))))), qf] 0) .loc (.op .no qf2 .loc q1a)))))))))))))))))))))))) 2) .ret)))
theorem cf243_ok : compF Go.Proofs.Tryz.prog xi243 = some cf243 := by kernel_rfl
noncomputable def xi244 := xiM 244 Go.Proofs.Tryz.f244 5
theorem xi244_ok : TabOK Go.Proofs.Tryz.prog [xi244] := tabOK1 Go.Proofs.Tryz.func244 (by kernel_rfl) (by kernel_rfl) rfl rfl
noncomputable def cf244 : FnC := (.mk 5 11 q90 (.seq (.rg (.op .no q86 .loc (.op .no q1g .loc q9o))) (.rg (.op .no q86 .loc (.op .no q45 .loc (.op .no q45 .loc (.op .no (.gen (.convert 3 272 (.tmp 7)) (rfC 5 [7, 6, 5])) .loc (.op .no qcv .loc (.op .no (.call qjo [q2e, q9, q2l, qf]) .loc .fin)))))))))
theorem cf244_ok : compF Go.Proofs.Tryz.prog xi244 = some cf244 := by kernel_rfl
noncomputable def xi245 := xiM 245 Go.Proofs.Tryz.f245 5
theorem xi245_ok : TabOK Go.Proofs.Tryz.prog [xi245] := tabOK1 Go.Proofs.Tryz.func245 (by kernel_rfl) (by kernel_rfl) rfl rfl
noncomputable def cf245 : FnC := (.mk 5 9 q9j (.seq qbn (.seq (.rg (.op .no q86 .loc (.op .no q86 .loc (.op .no q1g .loc (.op .no q86 .loc (.op .no q1g .loc (.op .no (.gen (.slice 180 (.tmp 3) Option.none (Option.some (.tmp 5)) (Option.some (.tmp 7))) (rfC 5 [7, 6, 5, 4, 3])) .loc q9o))))))) .ret)))
theorem cf245_ok : compF Go.Proofs.Tryz.prog xi245 = some cf245 := by kernel_rfl
noncomputable def xi246 := xiM 246 Go.Proofs.Tryz.f246 21
theorem xi246_ok : TabOK Go.Proofs.Tryz.prog [xi246] := tabOK1 Go.Proofs.Tryz.func246 (by kernel_rfl) (by kernel_rfl) rfl rfl
noncomputable def cf246 : FnC := (.mk 21 8 q9j (.seq qbn (.seq (.seq (.rg (.op .no q86 .loc (.op .no (.bin .eql 180 qf q2k) q8 .fin))) qd5) (.seq (.rg (.op .no (.bsl 347 0 2 []) .loc (.op .no q86 .loc (.op .no (.app 180 347 2 16 qi qf) .loc q9o)))) .ret))))
theorem cf246_ok : compF Go.Proofs.Tryz.prog xi246 = some cf246 := by kernel_rfl
noncomputable def xi247 := xiM 247 Go.Proofs.Tryz.f247 5
theorem xi247_ok : TabOK Go.Proofs.Tryz.prog [xi247] := tabOK1 Go.Proofs.Tryz.func247 (by kernel_rfl) (by kernel_rfl) rfl rfl
noncomputable def cf247 : FnC := (.mk 5 9 q9j (.seq qbn (.seq (.rg (.op .no q86 .loc (.op .no q86 .loc (.op .no q1g .loc (.op .no q86 .loc (.op .no q1g .loc (.op .no (.gen (.slice 181 (.tmp 3) Option.none (Option.some (.tmp 5)) (Option.some (.tmp 7))) (rfC 5 [7, 6, 5, 4, 3])) .loc q9o))))))) .ret)))
theorem cf247_ok : compF Go.Proofs.Tryz.prog xi247 = some cf247 := by kernel_rfl
noncomputable def xi248 := xiM 248 Go.Proofs.Tryz.f248 21
theorem xi248_ok : TabOK Go.Proofs.Tryz.prog [xi248] := tabOK1 Go.Proofs.Tryz.func248 (by kernel_rfl) (by kernel_rfl) rfl rfl
noncomputable def cf248 : FnC := (.mk 21 8 q9j (.seq qbn (.seq (.seq (.rg (.op .no q86 .loc (.op .no (.bin .eql 181 qf q2k) q8 .fin))) qd5) (.seq (.rg (.op .no (.bsl 186 0 3 []) .loc (.op .no q86 .loc (.op .no (.app 181 186 3 24 qi qf) .loc q9o)))) .ret))))
theorem cf248_ok : compF Go.Proofs.Tryz.prog xi248 = some cf248 := by kernel_rfl
noncomputable def xi249 := xiM 249 Go.Proofs.Tryz.f249 55
theorem xi249_ok : TabOK Go.Proofs.Tryz.prog [xi249] := tabOK1 Go.Proofs.Tryz.func249 (by kernel_rfl) (by kernel_rfl) rfl rfl
noncomputable def cf249 : FnC := (.mk 55 15 qab (.seq (.rg qc) (.seq (.rg (.op .no qc2 .loc (.op .no q86 .loc (.op .no qc4 .loc q3c)))) (.seq (.rg (.op .no q9e .loc (.op .no qg .loc (.op q5q q3d .loc (.op q5r qc5 .loc (.op .no qfu .loc q9i)))))) qje))))
theorem cf249_ok : compF Go.Proofs.Tryz.prog xi249 = some cf249 := by kernel_rfl
noncomputable def xi250 := xiM 250 Go.Proofs.Tryz.f250 66483
theorem xi250_ok : TabOK Go.Proofs.Tryz.prog [xi250] := tabOK1 Go.Proofs.Tryz.func250 (by kernel_rfl) (by kernel_rfl) rfl rfl
noncomputable def cf250 : FnC := (.mk 66483 19 q2m (.seq q37 (.seq (.seq qeo (.block 0 (.loop (.seq qep (.seq qeq (.seq (.block 1 (.seq qer (.seq (.rg (.op .no q45 .loc (.op .no q86 .loc (.op .no q4q .loc (.op .no qci .loc (.op .no q1z .loc qes)))))) qeu))) qev)))))) q9t)))
theorem cf250_ok : compF Go.Proofs.Tryz.prog xi250 = some cf250 := by kernel_rfl
noncomputable def xi251 := xiM 251 Go.Proofs.Tryz.f251 68719490939
theorem xi251_ok : TabOK Go.Proofs.Tryz.prog [xi251] := tabOK1 Go.Proofs.Tryz.func251 (by kernel_rfl) (by kernel_rfl) rfl rfl
noncomputable def cf251 : FnC := (.mk 68719490939 39 q90 (.seq (.rg (.op .no qe .loc (.op .no qd7 q19 q91))) (.block 0 (.loop (.seq q93 (.seq q94 (.seq (.block 1 (.seq (.rg (.op .no q27 .loc q3f)) (.seq (.rg (.op .no qc1 q21 .fin)) (.block 2 (.loop (.seq (.rg (.op .no (.bin .lss 5 q25 q9g) qv .fin)) (.seq qi5 (.seq (.block 3 (.seq (.rg (.op .no q4s .loc q10)) (.seq (.rg (.op .no qe .loc (.op .no q4u .loc (.op .no q4q .loc (.op .no qe8 .loc q4i))))) (.seq (.rg (.op .no qt .loc (.op .no qe9 .loc (.op .no qg .loc (.op q5q q3d .loc (.op q5r q4u .loc (.op q5s q9y .loc (.op .no qea .loc (.op .no qg .loc (.op q5q q86 .loc (.op q5r q4u .loc (.op q5s q4q .loc (.op q5t qeb .loc (.op q5u (.call q2l [qf]) .loc (.op qfz q78 .loc (.op .no (.pick q33 qf q3t) q1b .fin)))))))))))))))) (.cond q1d .ret .skip))))) (.rg (.op .no (.bin .add 5 q25 qa3) .loc q4l)))))))))) q9d)))))))
theorem cf251_ok : compF Go.Proofs.Tryz.prog xi251 = some cf251 := by kernel_rfl
noncomputable def xi252 := xiM 252 Go.Proofs.Tryz.f252 59
theorem xi252_ok : TabOK Go.Proofs.Tryz.prog [xi252] := tabOK1 Go.Proofs.Tryz.func252 (by kernel_rfl) (by kernel_rfl) rfl rfl
noncomputable def cf252 : FnC := (.mk 59 11 q3y (.seq (.rg (.op .no qh8 q8 (.op .no qa qb (.op .no q4b qm .fin)))) (.seq (.rg (.op .no q86 .loc (.op .no q40 .loc (.op .no (.call (.lit (.clo 294 [])) [qi, qf, (.lit (.clo 295 []))]) .loc (.op .no qh .loc (.op .no qj .loc (.op .no q17 qb q3c))))))) .ret)))
theorem cf252_ok : compF Go.Proofs.Tryz.prog xi252 = some cf252 := by kernel_rfl
noncomputable def xi261 := xiM 261 Go.Proofs.Tryz.f261 1048583
theorem xi261_ok : TabOK Go.Proofs.Tryz.prog [xi261] := tabOK1 Go.Proofs.Tryz.func261 (by kernel_rfl) (by kernel_rfl) rfl rfl
noncomputable def cf261 : FnC := (.mk 1048583 21 q2m (.seq qjp (.seq (.seq (.rg (.op .no q2p .loc (.op .no q2q .loc (.op .no qjq .loc (.op .no qg .loc (.op q2r q2p .loc (.op q2t q2q .loc (.op q2u qjr .loc (.op .no q2w .loc (.op .no qg .loc (.op q2r q2s .loc (.op q2t q2q .loc (.op q2u qjq .loc (.op .no q2w .loc (.op .no qg .loc (.op q2r q2s .loc (.op q2t q2q .loc (.op q2u qjr .loc qaa)))))))))))))))))) q36) q38)))
theorem cf261_ok : compF Go.Proofs.Tryz.prog xi261 = some cf261 := by kernel_rfl
noncomputable def xi262 := xiM 262 Go.Proofs.Tryz.f262 3
theorem xi262_ok : TabOK Go.Proofs.Tryz.prog [xi262] := tabOK1 Go.Proofs.Tryz.func262 (by kernel_rfl) (by kernel_rfl) rfl rfl
noncomputable def cf262 : FnC := (.mk 3 10 (.one (.cell 15 true q4)) (.seq (.rg (.op .no (.alloc 369 [(.con .nilFunc), (.con .nilFunc), (.con .nilFunc), (.con .nilFunc), (.con .nilFunc), (.con .nilFunc), (.con .nilFunc), (.con .nilFunc), (.con .nilFunc), (.con .nilFunc), (.con .nilFunc), (.con .nilFunc), (.con .nilFunc), (.con .nilFunc), (.con .nilFunc)]) q4c .fin)) (.seq (.rg (.op .no (.bld [(.mk 1 1 qa6), (.mk 2 1 qa3), (.mk 3 1 qa5), (.mk 4 1 q9g)] [(.int .u8 (.ofNat 0)), (.int .u8 (.ofNat 0)), (.int .u8 (.ofNat 0)), (.int .u8 (.ofNat 0)), (.int .u8 (.ofNat 0))]) .loc (.op .no (.alloc 400 [(.int .u8 (.ofNat 0)), (.int .u8 (.ofNat 0)), (.int .u8 (.ofNat 0)), (.int .u8 (.ofNat 0)), (.int .u8 (.ofNat 0))]) q6 (.op .no (.st 5 qd qf) .non .fin)))) (.seq (.rg (.op .no (.bld [(.mk 0 1 (.lit (.clo 299 []))), (.mk 1 1 (.lit (.clo 301 []))), (.mk 2 1 (.lit (.clo 302 [])))] [(.con .nilFunc), (.con .nilFunc), (.con .nilFunc)]) .loc (.op .no (.bld [(.mk 0 1 (.lit (.clo 303 []))), (.mk 1 1 (.lit (.clo 304 []))), (.mk 2 1 (.lit (.clo 305 [])))] [(.con .nilFunc), (.con .nilFunc), (.con .nilFunc)]) .loc (.op .no (.gen (.makeFunc (Fn.func 308) (Array.mk []) (Array.mk [(.tmp 1)])) (rfC 3 [4, 3])) .loc (.op .no (.bld [(.mk 0 1 (.lit (.clo 306 []))), (.mk 1 1 (.lit (.clo 307 []))), qa7] [(.con .nilFunc), (.con .nilFunc), (.con .nilFunc)]) .loc (.op .no (.gen (.makeFunc (Fn.func 311) (Array.mk []) (Array.mk [(.tmp 1)])) (rfC 3 [6, 5, 4, 3])) .loc (.op .no (.bld [(.mk 0 1 (.lit (.clo 309 []))), (.mk 1 1 (.lit (.clo 310 []))), qa7] [(.con .nilFunc), (.con .nilFunc), (.con .nilFunc)]) .loc (.op .no (.bld [(.mk 3 3 q2d), (.mk 6 3 q2e), (.mk 9 3 q22), (.mk 12 3 qf)] [(.con .nilFunc), (.con .nilFunc), (.con .nilFunc), (.con .nilFunc), (.con .nilFunc), (.con .nilFunc), (.con .nilFunc), (.con .nilFunc), (.con .nilFunc), (.con .nilFunc), (.con .nilFunc), (.con .nilFunc), (.con .nilFunc), (.con .nilFunc), (.con .nilFunc)]) .loc (.op .no (.st 15 q4 qf) .non .fin))))))))) .ret))))
theorem cf262_ok : compF Go.Proofs.Tryz.prog xi262 = some cf262 := by kernel_rfl
noncomputable def xi263 := xiM 263 Go.Proofs.Tryz.f263 17179886351
theorem xi263_ok : TabOK Go.Proofs.Tryz.prog [xi263] := tabOK1 Go.Proofs.Tryz.func263 (by kernel_rfl) (by kernel_rfl) rfl rfl
noncomputable def cf263 : FnC := (.mk 17179886351 53 q90 (.seq qhb (.block 0 (.loop (.seq qhc (.seq (.block 1 (.seq qhd (.block 2 (.loop (.seq (.seq (.rgd (.op .no qgv .loc (.op .no q9c .loc (.op .no qhe .loc (.op .no q15 .loc (.op q5q qhf .loc (.op q5r qc3 .loc (.op q5s qgv .loc (.op q5t qcj .loc (.op q5u qck .loc (.op qfz qc3 .loc (.op qg1 qgv .loc (.op qg2 qfb .loc (.op qg3 qfc .loc (.op qg4 qck .loc qhi)))))))))))))) 0) qhj) (.seq (.block 3 (.rgd (.op .no qc3 .loc (.op .no qgv .loc (.op .no qc3 .loc (.op .no qgv .loc (.op .no qfb .loc (.op .no qfc .loc (.op .no qck .loc (.op .no qc3 .loc (.op .no qgv .loc (.op .no qcj .loc (.op .no qck .loc (.op .no (.soft (.ias 3 q9h qem)) .loc (.op .no (.hard (.st 3 qf q2d)) .non (.op .no qc3 .loc (.op .no qgv .loc (.op .no qhm .loc (.op .no qfc .loc (.op .no (.hard (.st 3 qf q2d)) .non .fin)))))))))))))))))) 0)) qho)))))) qhp))))))
theorem cf263_ok : compF Go.Proofs.Tryz.prog xi263 = some cf263 := by kernel_rfl
noncomputable def xi272 := xiM 272 Go.Proofs.Tryz.f272 7
theorem xi272_ok : TabOK Go.Proofs.Tryz.prog [xi272] := tabOK1 Go.Proofs.Tryz.func272 (by kernel_rfl) (by kernel_rfl) rfl rfl
noncomputable def cf272 : FnC := (.mk 7 12 qh7 (.seq (.rg (.op .no (.box 59 q4) q6 (.op .no qeg q8 .fin))) (.seq (.rg (.op .no q2p .loc (.op .no q2q .loc (.op .no qa4 .loc (.op .no qae .loc (.op .no q2s .loc (.op .no q2q .loc (.op .no qa4 .loc (.op .no qae .loc (.op .no (.bld [(.mk 0 1 q2e), q3o] [(.int .i64 (.ofNat 0)), (.int .i64 (.ofNat 0))]) .loc qgl)))))))))) .ret)))
theorem cf272_ok : compF Go.Proofs.Tryz.prog xi272 = some cf272 := by kernel_rfl
noncomputable def xi275 := xiM 275 Go.Proofs.Tryz.f275 66483
theorem xi275_ok : TabOK Go.Proofs.Tryz.prog [xi275] := tabOK1 Go.Proofs.Tryz.func275 (by kernel_rfl) (by kernel_rfl) rfl rfl
noncomputable def cf275 : FnC := (.mk 66483 19 q2m (.seq q37 (.seq (.seq qeo (.block 0 (.loop (.seq qep (.seq qeq (.seq (.block 1 (.seq qer (.seq (.rg (.op .no q45 .loc (.op .no q86 .loc (.op .no q4q .loc (.op .no qci .loc (.op .no q1z .loc qes)))))) qeu))) qev)))))) q9t)))
theorem cf275_ok : compF Go.Proofs.Tryz.prog xi275 = some cf275 := by kernel_rfl
noncomputable def xi276 := xiM 276 Go.Proofs.Tryz.f276 1073746431
theorem xi276_ok : TabOK Go.Proofs.Tryz.prog [xi276] := tabOK1 Go.Proofs.Tryz.func276 (by kernel_rfl) (by kernel_rfl) rfl rfl
noncomputable def cf276 : FnC := (.mk 1073746431 36 qez (.seq (.rg (.op .no q5 q8 (.op .no qh8 qb (.op .no q20 qm q67)))) (.seq (.seq qf4 (.seq (.rg (.op .no q1f .loc q3e)) (.cond q25 (.seq (.rg (.op .no qc6 .loc (.op .no q1f .loc qr))) .ret) .skip))) (.seq (.seq (.rg (.op .no q40 .loc (.op .no q6c .loc (.op .no q2q .loc (.op .no qd1 .loc (.op .no q2q .loc (.op .no qf9 .loc (.op .no qg .loc (.op .no qh .loc (.op .no qj .loc (.op .no qb7 q1h (.op .no (.st 2 q26 qi) .non q60)))))))))))) (.seq (.rg (.op .no q29 .loc (.op .no qu .loc (.op .no qg .loc (.op q2r (.ld 2 true q26) .loc (.op q2t qaj .loc (.op q2u (.bin .neq 107 qi qf) .loc (.op .no q2w qv .fin)))))))) (.cond qy (.seq (.rg (.op .no qc6 .loc (.op .no q96 .non q6i))) .ret) .skip))) (.seq (.rg (.op .no q40 .loc (.op .no q6c .loc (.op .no q2q .loc (.op .no (.call (.lit (.clo 216 [])) [q22, qf]) .loc (.op .no q96 .non q67)))))) .ret)))))
theorem cf276_ok : compF Go.Proofs.Tryz.prog xi276 = some cf276 := by kernel_rfl
end
end Go.Proofs.YteodgliliglipaaGreatDoor.V.I
namespace Go.Proofs.YteodgliliglipaaGreatDoor.V.I
open Go
noncomputable section
set_option maxRecDepth 100000
noncomputable def xi280 := xiM 280 Go.Proofs.Tryz.f280 271
theorem xi280_ok : TabOK Go.Proofs.Tryz.prog [xi280] := tabOK1 Go.Proofs.Tryz.func280 (by kernel_rfl) (by kernel_rfl) rfl rfl
noncomputable def cf280 : FnC := (.mk 271 18 qcx (.seq (.rg q3z) (.seq (.rg (.op .no q86 .loc (.op .no q45 .loc (.op .no q7l .loc (.op .no q45 .loc (.op .no q45 .loc (.op .no qae .loc (.op .no q4u .loc (.op .no q4q .loc (.op .no (.call (.lit (.clo 281 [])) [qb4, q2d, q2e, q22, qi, qf]) .loc q3c)))))))))) .ret)))
theorem cf280_ok : compF Go.Proofs.Tryz.prog xi280 = some cf280 := by kernel_rfl
noncomputable def xi281 := xiM 281 Go.Proofs.Tryz.f281 4159
theorem xi281_ok : TabOK Go.Proofs.Tryz.prog [xi281] := tabOK1 Go.Proofs.Tryz.func281 (by kernel_rfl) (by kernel_rfl) rfl rfl
noncomputable def cf281 : FnC := (.mk 4159 41 (.one qan) (.seq (.rg q8r) (.seq qju (.seq (.rg (.op .no q86 .loc (.op .no q4u .loc (.op .no q4q .loc (.op .no q3d .loc (.op .no qt .loc (.op .no qjs .loc q4g))))))) (.seq qju qjv)))))
theorem cf281_ok : compF Go.Proofs.Tryz.prog xi281 = some cf281 := by kernel_rfl
noncomputable def xi282 := xiM 282 Go.Proofs.Tryz.f282 11
theorem xi282_ok : TabOK Go.Proofs.Tryz.prog [xi282] := tabOK1 Go.Proofs.Tryz.func282 (by kernel_rfl) (by kernel_rfl) rfl rfl
noncomputable def cf282 : FnC := (.mk 11 11 q2m (.seq qej (.seq (.rg (.op .no q86 .loc (.op .no qcq .loc (.op .no qg .loc (.op q2r q86 .loc (.op q2t qc2 .loc (.op q2u qgf .loc (.op .no q2w .loc q3f)))))))) .ret)))
theorem cf282_ok : compF Go.Proofs.Tryz.prog xi282 = some cf282 := by kernel_rfl
noncomputable def xi283 := xiM 283 Go.Proofs.Tryz.f283 17179886351
theorem xi283_ok : TabOK Go.Proofs.Tryz.prog [xi283] := tabOK1 Go.Proofs.Tryz.func283 (by kernel_rfl) (by kernel_rfl) rfl rfl
noncomputable def cf283 : FnC := (.mk 17179886351 53 q90 (.seq qhb (.block 0 (.loop (.seq qhc (.seq (.block 1 (.seq qhd (.block 2 (.loop (.seq (.seq (.rgd (.op .no qgv .loc (.op .no q9c .loc (.op .no qhe .loc (.op .no q15 .loc (.op q5q qhf .loc (.op q5r qc3 .loc (.op q5s qgv .loc (.op q5t qjk .loc (.op q5u qjj .loc (.op qfz qc3 .loc (.op qg1 qgv .loc (.op qg2 qfb .loc (.op qg3 qji .loc (.op qg4 qjj .loc qhi)))))))))))))) 0) qhj) (.seq (.block 3 (.rgd (.op .no qc3 .loc (.op .no qgv .loc (.op .no qc3 .loc (.op .no qgv .loc (.op .no qfb .loc (.op .no qji .loc (.op .no qjj .loc (.op .no qc3 .loc (.op .no qgv .loc (.op .no qjk .loc (.op .no qjj .loc (.op .no qjw .loc (.op .no qjx .non (.op .no qc3 .loc (.op .no qgv .loc (.op .no qhm .loc qjy)))))))))))))))) 0)) qho)))))) qhp))))))
theorem cf283_ok : compF Go.Proofs.Tryz.prog xi283 = some cf283 := by kernel_rfl
noncomputable def xi286 := xiM 286 Go.Proofs.Tryz.f286 1333065575601045263
theorem xi286_ok : TabOK Go.Proofs.Tryz.prog [xi286] := tabOK1 Go.Proofs.Tryz.func286 (by kernel_rfl) (by kernel_rfl) rfl rfl
noncomputable def cf286 : FnC := (.mk 1333065575601045263 63 q7v (.seq (.rg qag) (.seq qhq (.seq qhs (.seq qht (.seq qhu (.seq qhv (.seq (.seq qhw (.cond q1d (.seq (.seq qhy (.cond q1k (.seq (.rg (.op .no q86 .loc (.op .no q29 .loc (.op .no q4q .loc (.op .no qjz .loc q60))))) (.seq (.rg (.op .no q86 .loc (.op .no q4s .loc (.op .no q4q .loc (.op .no qjz .loc q4l))))) (.rg (.op .no q86 .loc (.op .no q4w .loc (.op .no q4q .loc (.op .no qjz .loc q6d))))))) .skip)) (.rg (.op .no q86 .loc (.op .no q29 .loc (.op .no q4s .loc (.op .no q4w .loc (.op .no q4q .loc (.op .no (.call (.lit (.clo 319 [])) [q2e, q2l, q22, qi, q26, qf]) .loc q4l)))))))) .skip)) qi0))))))))
theorem cf286_ok : compF Go.Proofs.Tryz.prog xi286 = some cf286 := by kernel_rfl
noncomputable def xi288 := xiM 288 Go.Proofs.Tryz.f288 21268317252094917911888073248812900111
theorem xi288_ok : TabOK Go.Proofs.Tryz.prog [xi288] := tabOK1 Go.Proofs.Tryz.func288 (by kernel_rfl) (by kernel_rfl) rfl rfl
noncomputable def cf288 : FnC := (.mk 21268317252094917911888073248812900111 141 qcx (.seq qi1 (.seq qi2 (.seq (.seq (.rg q8r) (.block 0 (.loop (.seq qi3 (.seq (.block 1 (.seq (.block 2 (.loop (.seq (.seq (.rgd (.op .no qgv .loc (.op .no qbx .loc (.op .no (.soft q9w) .loc (.op .no q15 .loc (.op q5q qhf .loc (.op q5r qc3 .loc (.op q5s qgv .loc (.op q5t qjk .loc (.op q5u qjj .loc (.op qfz qc3 .loc (.op qg1 qgv .loc (.op qg2 qfb .loc (.op qg3 qji .loc (.op qg4 qjj .loc qi4)))))))))))))) 0) qi5) qi6))) (.seq qi8 (.seq qia (.seq (.rgd (.op .no qc3 .loc (.op .no qgv .loc (.op .no qc3 .loc (.op .no qgv .loc (.op .no qfb .loc (.op .no qji .loc (.op .no qjj .loc (.op .no qc3 .loc (.op .no qgv .loc (.op .no qjk .loc (.op .no qjj .loc (.op .no qjw .loc (.op .no qjx .non (.op .no qc3 .loc (.op .no qgv .loc (.op .no qib .loc qjy)))))))))))))))) 0) (.seq (.seq qic (.cond q1q (.seq qid (.block 4 (.loop (.seq qie (.seq (.block 5 (.seq (.seq (.rgd (.op .no qhf .loc (.op .no qc3 .loc (.op .no q2j .loc (.op .no qjk .loc (.op .no qjj .loc (.op .no qc3 .loc (.op .no q2j .loc (.op .no qfb .loc (.op .no qji .loc (.op .no qjj .loc qif)))))))))) 0) (.cond q1u qdb .skip)) (.rgd (.op .no qc3 .loc (.op .no q2j .loc (.op .no qc3 .loc (.op .no q2j .loc (.op .no qfb .loc (.op .no qji .loc (.op .no qjj .loc (.op .no qc3 .loc (.op .no q2j .loc (.op .no qjk .loc (.op .no qjj .loc (.op .no qjw .loc (.op .no qjx .non (.op .no qc3 .loc (.op .no q2j .loc (.op .no qig .loc qjy)))))))))))))))) 0))) qih))))) .skip)) (.seq qii (.cond q5f (.seq qij (.block 6 (.loop (.seq qik (.seq (.block 7 (.seq (.seq (.rgd (.op .no qhf .loc (.op .no qc3 .loc (.op .no qch .loc (.op .no qjk .loc (.op .no qjj .loc (.op .no qc3 .loc (.op .no qch .loc (.op .no qfb .loc (.op .no qji .loc (.op .no qjj .loc qil)))))))))) 0) (.cond q5k qdc .skip)) (.rgd (.op .no qc3 .loc (.op .no qch .loc (.op .no qc3 .loc (.op .no qch .loc (.op .no qfb .loc (.op .no qji .loc (.op .no qjj .loc (.op .no qc3 .loc (.op .no qch .loc (.op .no qjk .loc (.op .no qjj .loc (.op .no qjw .loc (.op .no qjx .non (.op .no qc3 .loc (.op .no qch .loc (.op .no qim .loc qjy)))))))))))))))) 0))) qin))))) .skip)))))))) qio))))) qi9))))
theorem cf288_ok : compF Go.Proofs.Tryz.prog xi288 = some cf288 := by kernel_rfl
noncomputable def xi289 := xiM 289 Go.Proofs.Tryz.f289 1217485249602318769183
theorem xi289_ok : TabOK Go.Proofs.Tryz.prog [xi289] := tabOK1 Go.Proofs.Tryz.func289 (by kernel_rfl) (by kernel_rfl) rfl rfl
noncomputable def cf289 : FnC := (.mk 1217485249602318769183 90 qgm (.seq (.rg q67) (.seq qk2 (.seq qis (.seq (.block 0 (.loop (.block 1 (.seq (.block 2 (.loop (.seq (.seq (.rgd (.op .no q8d .loc (.op .no q2j .loc (.op .no qit .loc (.op .no q15 .loc (.op q5q q8c .loc (.op q5r qc3 .loc (.op q5s q9c .loc (.op q5t qjk .loc (.op q5u qjj .loc (.op qfz qc3 .loc (.op qg1 q8d .loc (.op qg2 qjk .loc (.op qg3 qjj .loc qiv))))))))))))) 0) qh2) (.block 3 qio)))) (.seq (.block 4 (.loop (.seq (.seq (.rgd (.op .no q8d .loc (.op .no q2j .loc (.op .no qit .loc (.op .no q15 .loc (.op q5q q8c .loc (.op q5r qc3 .loc (.op q5s q9c .loc (.op q5t qjk .loc (.op q5u qjj .loc (.op qfz qc3 .loc (.op qg1 q2j .loc qk3))))))))))) 0) qh3) (.block 5 qih)))) (.seq qiz (.seq (.rgd (.op .no qc3 .loc (.op .no q8d .loc (.op .no qc3 .loc (.op .no q2j .loc (.op .no qjk .loc (.op .no qjj .loc (.op .no qc3 .loc (.op .no q8d .loc (.op .no qjk .loc (.op .no qjj .loc (.op .no qk0 .loc (.op .no qjx .non (.op .no qc3 .loc (.op .no q2j .loc qk1)))))))))))))) 0) (.seq qio qih)))))))) qj0)))))
theorem cf289_ok : compF Go.Proofs.Tryz.prog xi289 = some cf289 := by kernel_rfl
noncomputable def xi290 := xiM 290 Go.Proofs.Tryz.f290 22997644815212700899627017342834150232570911
theorem xi290_ok : TabOK Go.Proofs.Tryz.prog [xi290] := tabOK1 Go.Proofs.Tryz.func290 (by kernel_rfl) (by kernel_rfl) rfl rfl
noncomputable def cf290 : FnC := (.mk 22997644815212700899627017342834150232570911 178 qd6 (.seq qj1 (.seq qk2 (.seq qj2 (.seq (.block 0 (.loop (.seq (.seq (.rgd (.op .no q2j .loc (.op .no qch .loc (.op .no qit .loc (.op .no q15 .loc (.op q5q q8c .loc (.op q5r qc3 .loc (.op q5s q2j .loc (.op q5t qjk .loc (.op q5u qjj .loc (.op qfz qc3 .loc (.op qg1 q9c .loc qk3))))))))))) 0) qco) (.block 1 qfe)))) (.seq (.block 2 (.loop (.seq (.seq (.rgd (.op .no q2j .loc (.op .no qch .loc (.op .no qit .loc (.op .no q15 .loc (.op q5q q8c .loc (.op q5r qc3 .loc (.op q5s qch .loc (.op q5t qjk .loc (.op q5u qjj .loc (.op qfz qc3 .loc (.op qg1 q9c .loc (.op qg2 qjk .loc (.op qg3 qjj .loc qj3))))))))))))) 0) qi5) (.block 3 qj4)))) (.seq (.seq qj5 (.cond q1d (.seq qk4 qj7) .skip)) (.seq qk5 (.seq qfe (.seq qj4 (.seq (.block 4 (.loop (.block 5 (.seq (.block 6 (.loop (.seq (.seq (.rgd (.op .no q2j .loc (.op .no qch .loc (.op .no qit .loc (.op .no q15 .loc (.op q5q q8c .loc (.op q5r qc3 .loc (.op q5s q2j .loc (.op q5t qjk .loc (.op q5u qjj .loc (.op qfz qc3 .loc (.op qg1 q9c .loc (.op qg2 qjk .loc (.op qg3 qjj .loc qj9))))))))))))) 0) (.cond q1k .skip qdc)) (.block 7 qfe)))) (.seq (.block 8 (.loop (.seq (.seq (.rgd (.op .no q2j .loc (.op .no qch .loc (.op .no qit .loc (.op .no q15 .loc (.op q5q q8c .loc (.op q5r qc3 .loc (.op q5s qch .loc (.op q5t qjk .loc (.op q5u qjj .loc (.op qfz qc3 .loc (.op qg1 q9c .loc (.op qg2 qjk .loc (.op qg3 qjj .loc qja))))))))))))) 0) qjb) (.block 9 qj4)))) (.seq qjc (.seq qk5 (.seq qfe qj4)))))))) (.seq qk4 qjd))))))))))))
theorem cf290_ok : compF Go.Proofs.Tryz.prog xi290 = some cf290 := by kernel_rfl
noncomputable def xi291 := xiM 291 Go.Proofs.Tryz.f291 42535296023574879666274036850519702559
theorem xi291_ok : TabOK Go.Proofs.Tryz.prog [xi291] := tabOK1 Go.Proofs.Tryz.func291 (by kernel_rfl) (by kernel_rfl) rfl rfl
noncomputable def cf291 : FnC := (.mk 42535296023574879666274036850519702559 148 q90 (.seq qdt (.seq qfk (.block 0 (.loop (.block 1 (.seq qfl (.seq (.seq qfm (.cond q5f (.seq (.rg (.op .no q86 .loc (.op .no q45 .loc (.op .no q4u .loc (.op .no q3d .loc (.op .no (.call (.lit (.clo 320 [])) [q2l, q22, qi, qf]) .loc .fin)))))) .ret) .skip)) (.seq (.seq qfo (.cond q5j (.seq (.rg (.op .no q86 .loc (.op .no q45 .loc (.op .no q4u .loc (.op .no q3d .loc (.op .no (.call (.lit (.clo 321 [])) [q2l, q22, qi, qf]) .loc .fin)))))) .ret) .skip)) (.seq (.seq qfp (.cond q5k (.seq (.rg (.op .no q86 .loc (.op .no q45 .loc (.op .no q4u .loc (.op .no q3d .loc (.op .no (.call (.lit (.clo 322 [])) [q2l, q22, qi, qf]) .loc .fin)))))) qfq) .skip)) (.seq (.rg (.op .no q86 .loc (.op .no q45 .loc (.op .no q4u .loc (.op .no q3d .loc (.op .no (.call (.lit (.clo 323 [])) [q2l, q22, qi, qf]) .loc q4m)))))) (.seq (.seq qfr (.cond q5h (.seq (.rg (.op .no q86 .loc (.op .no q45 .loc (.op .no q4u .loc (.op .no q3d .loc (.op .no (.call (.lit (.clo 324 [])) [q2l, q22, qi, qf]) .loc .fin)))))) qft) .skip)) (.seq (.seq qfv (.cond q52 (.seq (.rg (.op .no q86 .loc (.op .no q45 .loc (.op .no q4u .loc (.op .no q3d .loc (.op .no (.call (.lit (.clo 325 [])) [q2l, q22, qi, qf]) q5m .fin)))))) qfw) .skip)) (.seq (.seq (.rgd (.op .no q9c .loc (.op .no qfx .loc (.op .no q15 .loc (.op q5q q8c .loc (.op q5r qc3 .loc (.op q5s q9c .loc (.op q5t qfb .loc (.op q5u qk6 .loc (.op qfz q9a .loc (.op qg1 qc3 .loc (.op qg2 qch .loc (.op qg3 qk7 .loc (.op qg4 q9a .loc qg9))))))))))))) 0) (.cond q6g (.seq (.rg (.op .no q86 .loc (.op .no q45 .loc (.op .no q4u .loc (.op .no q29 .loc (.op .no q3d .loc (.op .no (.call (.lit (.clo 326 [])) [q2e, q2l, q22, qi, qf]) .loc q6d))))))) qga) .skip)) (.seq (.rg (.op .no q86 .loc (.op .no q45 .loc (.op .no q4u .loc (.op .no q29 .loc (.op .no q3d .loc (.op .no (.call (.lit (.clo 327 [])) [q2e, q2l, q22, qi, qf]) .loc qfh))))))) (.seq qgb (.seq qgc (.seq qgd (.seq qge (.cond q6q (.seq qgh (.seq (.rg (.op .no q86 .loc (.op .no q45 .loc (.op .no q4t .loc (.op .no q4q .loc (.op .no q3d .loc (.op .no (.call qjl [q2e, q2l, q22, qi, qf]) .loc .fin))))))) qgi)) (.seq qgj (.seq (.rg (.op .no q86 .loc (.op .no q4t .loc (.op .no qae .loc (.op .no q4u .loc (.op .no q4q .loc (.op .no q3d .loc (.op .no (.call qjl [q2d, q2l, q22, qi, qf]) .loc .fin)))))))) qgk))))))))))))))))))))))
theorem cf291_ok : compF Go.Proofs.Tryz.prog xi291 = some cf291 := by kernel_rfl
noncomputable def xi292 := xiM 292 Go.Proofs.Tryz.f292 42535296023574879666274036850519702559
theorem xi292_ok : TabOK Go.Proofs.Tryz.prog [xi292] := tabOK1 Go.Proofs.Tryz.func292 (by kernel_rfl) (by kernel_rfl) rfl rfl
noncomputable def cf292 : FnC := (.mk 42535296023574879666274036850519702559 148 q90 (.seq qdt (.seq qfk (.block 0 (.loop (.block 1 (.seq qfl (.seq (.seq qfm (.cond q5f (.seq (.rg (.op .no q86 .loc (.op .no q45 .loc (.op .no q4u .loc (.op .no q3d .loc (.op .no (.call (.lit (.clo 328 [])) [q2l, q22, qi, qf]) .loc .fin)))))) .ret) .skip)) (.seq (.seq qfo (.cond q5j (.seq (.rg (.op .no q86 .loc (.op .no q45 .loc (.op .no q4u .loc (.op .no q3d .loc (.op .no (.call (.lit (.clo 329 [])) [q2l, q22, qi, qf]) .loc .fin)))))) .ret) .skip)) (.seq (.seq qfp (.cond q5k (.seq (.rg (.op .no q86 .loc (.op .no q45 .loc (.op .no q4u .loc (.op .no q3d .loc (.op .no (.call (.lit (.clo 330 [])) [q2l, q22, qi, qf]) .loc .fin)))))) qfq) .skip)) (.seq (.rg (.op .no q86 .loc (.op .no q45 .loc (.op .no q4u .loc (.op .no q3d .loc (.op .no (.call (.lit (.clo 331 [])) [q2l, q22, qi, qf]) .loc q4m)))))) (.seq (.seq qfr (.cond q5h (.seq (.rg (.op .no q86 .loc (.op .no q45 .loc (.op .no q4u .loc (.op .no q3d .loc (.op .no (.call (.lit (.clo 332 [])) [q2l, q22, qi, qf]) .loc .fin)))))) qft) .skip)) (.seq (.seq qfv (.cond q52 (.seq (.rg (.op .no q86 .loc (.op .no q45 .loc (.op .no q4u .loc (.op .no q3d .loc (.op .no (.call (.lit (.clo 333 [])) [q2l, q22, qi, qf]) q5m .fin)))))) qfw) .skip)) (.seq (.seq qgy (.cond q6g (.seq (.rg (.op .no q86 .loc (.op .no q45 .loc (.op .no q4u .loc (.op .no q29 .loc (.op .no q3d .loc (.op .no (.call (.lit (.clo 334 [])) [q2e, q2l, q22, qi, qf]) .loc q6d))))))) qga) .skip)) (.seq (.rg (.op .no q86 .loc (.op .no q45 .loc (.op .no q4u .loc (.op .no q29 .loc (.op .no q3d .loc (.op .no (.call (.lit (.clo 335 [])) [q2e, q2l, q22, qi, qf]) .loc qfh))))))) (.seq qgb (.seq qgc (.seq qgd (.seq qge (.cond q6q (.seq qgh (.seq (.rg (.op .no q86 .loc (.op .no q45 .loc (.op .no q4t .loc (.op .no q4q .loc (.op .no q3d .loc (.op .no (.call qjn [q2e, q2l, q22, qi, qf]) .loc .fin))))))) qgi)) (.seq qgj (.seq (.rg (.op .no q86 .loc (.op .no q4t .loc (.op .no qae .loc (.op .no q4u .loc (.op .no q4q .loc (.op .no q3d .loc (.op .no (.call qjn [q2d, q2l, q22, qi, qf]) .loc .fin)))))))) qgk))))))))))))))))))))))
theorem cf292_ok : compF Go.Proofs.Tryz.prog xi292 = some cf292 := by kernel_rfl
noncomputable def xi293 := xiM 293 Go.Proofs.Tryz.f293 10384593871817177683247510831234831
theorem xi293_ok : TabOK Go.Proofs.Tryz.prog [xi293] := tabOK1 Go.Proofs.Tryz.func293 (by kernel_rfl) (by kernel_rfl) rfl rfl
noncomputable def cf293 : FnC := (.mk 10384593871817177683247510831234831 134 q90 (.seq qi7 (.seq qdt (.block 0 (.loop (.block 1 (.seq qhq (.seq (.seq (.rg (.op .no q1f .loc (.op .no (.bin .leq 3 qf q8y) q1s .fin))) (.cond q1u (.seq (.rg (.op .no q86 .loc (.op .no q45 .loc (.op .no q4u .loc (.op .no (.call (.lit (.clo 336 [])) [q22, qi, qf]) .loc .fin))))) .ret) .skip)) (.seq (.seq (.rg (.op .no q4q .loc (.op .no q6e q56 .fin))) (.cond q5f (.seq (.rg (.op .no q86 .loc (.op .no q45 .loc (.op .no q4u .loc (.op .no (.call (.lit (.clo 337 [])) [q22, qi, qf]) .loc .fin))))) .ret) .skip)) (.seq (.seq (.rg (.op .no q3d .loc (.op .no q78 q5a .fin))) (.cond q5j (.seq (.rg (.op .no q86 .loc (.op .no q45 .loc (.op .no q4u .loc (.op .no (.call (.lit (.clo 338 [])) [q22, qi, qf]) .loc .fin))))) qfq) .skip)) (.seq (.rg (.op .no q86 .loc (.op .no q45 .loc (.op .no q4u .loc (.op .no (.call (.lit (.clo 339 [])) [q22, qi, qf]) .loc qax))))) (.seq (.seq (.rg (.op .no q29 .loc (.op .no (.bin .eql 334 qf q46) q5c .fin))) (.cond q5k (.seq (.rg (.op .no q86 .loc (.op .no q45 .loc (.op .no q4u .loc (.op .no (.call (.lit (.clo 340 [])) [q22, qi, qf]) .loc .fin))))) (.seq (.rg (.op .no q4u .loc (.op .no q7l .loc (.op .no q27 .loc (.op .no q45 .loc (.op .no q7k .loc (.op .no qfs .loc q1i))))))) (.rg (.op .no q34 q24 .fin)))) .skip)) (.seq (.seq (.rg (.op .no q3d .loc (.op .no qg .loc (.op q5q qt .loc (.op .no (.pick qi qf q3t) .loc (.op .no qg .loc (.op q5q q29 .loc (.op q5r (.bin .eql 334 qf q2g) .loc (.op .no qfu q5e .fin))))))))) (.cond q5h (.seq (.rg (.op .no q86 .loc (.op .no q45 .loc (.op .no q4u .loc (.op .no (.call (.lit (.clo 341 [])) [q22, qi, qf]) q51 .fin))))) (.cond q52 .ret .skip)) .skip)) (.seq (.seq (.rgd (.op .no q9c .loc (.op .no qfx .loc (.op .no q15 .loc (.op q5q qc3 .loc (.op q5r q9c .loc (.op q5s qfb .loc (.op q5t qb9 .loc (.op q5u q6z .loc (.op qfz qc3 .loc (.op qg1 q2j .loc (.op qg2 qba .loc (.op qg3 q6z .loc (.op qg4 (.hard (.call (.lit (.clo 342 [])) [q2e, qf])) .loc (.op qg5 qg7 .loc (.op .no qiw q5m .fin))))))))))))))) 0) (.cond q5n (.seq (.rg (.op .no q86 .loc (.op .no q45 .loc (.op .no q4u .loc (.op .no q27 .loc (.op .no (.call (.lit (.clo 343 [])) [q2l, q22, qi, qf]) .loc q4l)))))) (.seq (.rg (.op .no q4s .loc q9o)) (.exit 1))) .skip)) (.seq (.rg (.op .no q86 .loc (.op .no q45 .loc (.op .no q4u .loc (.op .no q27 .loc (.op .no (.call (.lit (.clo 344 [])) [q2l, q22, qi, qf]) .loc q4p)))))) (.seq (.rg (.op .no q4t .loc qq)) (.seq (.rg (.op .no q4w .loc (.op .no q45 .loc (.op .no q7k .loc (.op .no q4u .loc (.op .no q4w .loc (.op .no q7k .loc (.op .no (.mv q2l) q1j q3q)))))))) (.seq (.rg (.op .no q1f .loc (.op .no (.bin .quo 3 qf qew) .loc q2h))) (.seq (.rg (.op .no q5z .loc (.op .no q5i .loc (.op .no q9w q6f .fin)))) (.cond q6g (.seq (.rg (.op .no q5z .loc qk8)) (.seq (.rg (.op .no q86 .loc (.op .no q45 .loc (.op .no q4w .loc (.op .no q4q .loc (.op .no (.call qjo [q2l, q22, qi, qf]) .loc .fin)))))) (.rg (.op .no q4w .loc (.op .no qae .loc q9o))))) (.seq (.rg (.op .no q5i .loc qk8)) (.seq (.rg (.op .no q86 .loc (.op .no q4w .loc (.op .no qae .loc (.op .no q4u .loc (.op .no q4q .loc (.op .no (.call qjo [q2e, q22, qi, qf]) .loc .fin))))))) (.rg (.op .no q4w .loc q3f))))))))))))))))))))))))
theorem cf293_ok : compF Go.Proofs.Tryz.prog xi293 = some cf293 := by kernel_rfl
noncomputable def xi294 := xiM 294 Go.Proofs.Tryz.f294 2147618775
theorem xi294_ok : TabOK Go.Proofs.Tryz.prog [xi294] := tabOK1 Go.Proofs.Tryz.func294 (by kernel_rfl) (by kernel_rfl) rfl rfl
noncomputable def cf294 : FnC := (.mk 2147618775 49 q7v (.seq (.rg (.op .no qh8 qb (.op .no qa qm (.op .no q4b qp .fin)))) (.seq (.rg (.op .no q86 .loc (.op .no q1g .loc q47))) (.seq (.rg (.op .no q1f .loc (.op .no qa q1h q60))) (.seq (.block 0 (.loop (.seq (.seq (.rg (.op .no q27 .loc (.op .no q29 .loc (.op .no q9w qv .fin)))) qbw) (.block 1 (.seq (.rg (.op .no q27 .loc (.op .no q29 .loc (.op .no qh1 .loc (.op .no (.gen (.convert 3 272 (.tmp 20)) (rfC 2147618775 [20, 19, 18])) .loc (.op .no (.bin .shr 272 qf (.lit (.int .u64 (.ofNat 1)))) .loc (.op .no (.gen (.convert 272 3 (.tmp 22)) (rfC 2147618775 [22, 21, 20, 19, 18])) .loc q4l))))))) (.seq (.rgd (.op .no qbx .loc (.op .no qc3 .loc (.op .no q6y .loc (.op .no qcj .loc (.op .no qck .loc (.op .no (.soft qaj) .loc (.op .no qk9 .loc (.op .no qe4 q1b .fin)))))))) 0) (.cond q1d (.rg (.op .no q4s .loc (.op .no qae .loc q1i))) (.rg (.op .no q4s .loc q60))))))))) (.seq (.rgd (.op .no q2j .loc (.op .no q8d .loc (.op .no (.soft q9w) .loc (.op .no q15 .loc (.op q5q qbx .loc (.op q5r qc3 .loc (.op q5s q2j .loc (.op q5t qcj .loc (.op q5u qck .loc (.op qfz (.soft qaj) .loc (.op qg1 qk9 .loc (.op .no q2j .loc (.op qg3 (.soft (.bin .eql 3 qi q9)) .loc (.op .no (.soft (.pick qem qf q3t)) .loc (.op .no (.soft q23) qm q1a))))))))))))))) 0) .ret))))))
theorem cf294_ok : compF Go.Proofs.Tryz.prog xi294 = some cf294 := by kernel_rfl
noncomputable def xi295 := xiM 295 Go.Proofs.Tryz.f295 31
theorem xi295_ok : TabOK Go.Proofs.Tryz.prog [xi295] := tabOK1 Go.Proofs.Tryz.func295 (by kernel_rfl) (by kernel_rfl) rfl rfl
noncomputable def cf295 : FnC := (.mk 31 9 qcx (.seq (.rg (.op .no qf0 q8 (.op .no qh8 qb q3z))) (.seq (.rgd (.op .no (.soft q7z) .loc (.op .no qfa .loc (.op .no (.softw qaj 1 (.load 107 (.tmp 3)) (rfR 31 [6, 5] [3])) .loc (.op .no (.hard (.call (.lit (.clo 222 [])) [qi, qf])) .loc (.op .no q15 qm .fin))))) 0) .ret)))
theorem cf295_ok : compF Go.Proofs.Tryz.prog xi295 = some cf295 := by kernel_rfl
noncomputable def xi299 := xiM 299 Go.Proofs.Tryz.f299 7
theorem xi299_ok : TabOK Go.Proofs.Tryz.prog [xi299] := tabOK1 Go.Proofs.Tryz.func299 (by kernel_rfl) (by kernel_rfl) rfl rfl
noncomputable def cf299 : FnC := (.mk 7 5 q2m (.seq qjp (.seq (.rg (.op .no qe .loc (.op .no (.call qka [qa3, qf]) .loc q3f))) .ret)))
theorem cf299_ok : compF Go.Proofs.Tryz.prog xi299 = some cf299 := by kernel_rfl
noncomputable def xi300 := xiM 300 Go.Proofs.Tryz.f300 17531
theorem xi300_ok : TabOK Go.Proofs.Tryz.prog [xi300] := tabOK1 Go.Proofs.Tryz.func300 (by kernel_rfl) (by kernel_rfl) rfl rfl
noncomputable def cf300 : FnC := (.mk 17531 26 qab (.seq (.rg (.op .no (.box 300 qd) q8 qc)) (.seq (.seq (.rg (.op .no q86 qm .fin)) (.block 0 (.seq (.rg (.op .no (.bin .eql 41 qn qa3) .loc qq)) (.cond qs (.seq (.rg (.op .no q61 .loc q9m)) .ret) (.seq (.rg (.op .no (.bin .eql 41 qn qa6) .loc q47)) (.cond q1e (.seq (.rg (.op .no qd0 .loc q9m)) .ret) (.seq (.rg (.op .no (.bin .eql 41 qn q9g) .loc q1i)) (.cond q26 (.seq (.rg (.op .no q61 .loc (.op .no q2q .loc (.op .no qd0 .loc (.op .no q2q .loc (.op .no qcp .loc q10)))))) .ret) .skip)))))))) (.seq (.rg (.op .no qd0 .loc (.op .no q2q .loc (.op .no q61 .loc (.op .no q2q .loc (.op .no qfi .loc q10)))))) .ret))))
theorem cf300_ok : compF Go.Proofs.Tryz.prog xi300 = some cf300 := by kernel_rfl
noncomputable def xi303 := xiM 303 Go.Proofs.Tryz.f303 7
theorem xi303_ok : TabOK Go.Proofs.Tryz.prog [xi303] := tabOK1 Go.Proofs.Tryz.func303 (by kernel_rfl) (by kernel_rfl) rfl rfl
noncomputable def cf303 : FnC := (.mk 7 5 q2m (.seq qjp (.seq (.rg (.op .no qe .loc (.op .no (.call qka [qa6, qf]) .loc q3f))) .ret)))
theorem cf303_ok : compF Go.Proofs.Tryz.prog xi303 = some cf303 := by kernel_rfl
noncomputable def xi306 := xiM 306 Go.Proofs.Tryz.f306 7
theorem xi306_ok : TabOK Go.Proofs.Tryz.prog [xi306] := tabOK1 Go.Proofs.Tryz.func306 (by kernel_rfl) (by kernel_rfl) rfl rfl
noncomputable def cf306 : FnC := (.mk 7 5 q2m (.seq qjp (.seq (.rg (.op .no qe .loc (.op .no (.call qka [q9g, qf]) .loc q3f))) .ret)))
theorem cf306_ok : compF Go.Proofs.Tryz.prog xi306 = some cf306 := by kernel_rfl
noncomputable def xi309 := xiM 309 Go.Proofs.Tryz.f309 7
theorem xi309_ok : TabOK Go.Proofs.Tryz.prog [xi309] := tabOK1 Go.Proofs.Tryz.func309 (by kernel_rfl) (by kernel_rfl) rfl rfl
noncomputable def cf309 : FnC := (.mk 7 5 q2m (.seq qjp (.seq (.rg (.op .no qe .loc (.op .no (.call qka [qa5, qf]) .loc q3f))) .ret)))
theorem cf309_ok : compF Go.Proofs.Tryz.prog xi309 = some cf309 := by kernel_rfl
noncomputable def xi316 := xiM 316 Go.Proofs.Tryz.f316 4197407
theorem xi316_ok : TabOK Go.Proofs.Tryz.prog [xi316] := tabOK1 Go.Proofs.Tryz.func316 (by kernel_rfl) (by kernel_rfl) rfl rfl
noncomputable def cf316 : FnC := (.mk 4197407 32 qd6 (.seq qkb (.seq (.seq (.rgd (.op .no q8c .loc (.op .no qc3 .loc (.op .no qbx .loc (.op .no q8f .loc (.op .no qg0 .loc (.op .no qc3 .loc (.op .no q9c .loc (.op .no q8f .loc (.op .no qg0 .loc qkc))))))))) 0) qkd) qke)))
theorem cf316_ok : compF Go.Proofs.Tryz.prog xi316 = some cf316 := by kernel_rfl
noncomputable def xi318 := xiM 318 Go.Proofs.Tryz.f318 271
theorem xi318_ok : TabOK Go.Proofs.Tryz.prog [xi318] := tabOK1 Go.Proofs.Tryz.func318 (by kernel_rfl) (by kernel_rfl) rfl rfl
noncomputable def cf318 : FnC := (.mk 271 18 qcx (.seq (.rg q3z) (.seq (.rg (.op .no q86 .loc (.op .no q45 .loc (.op .no q7l .loc (.op .no q45 .loc (.op .no q45 .loc (.op .no qae .loc (.op .no q4u .loc (.op .no q4q .loc (.op .no (.call (.lit (.clo 319 [])) [qb4, q2d, q2e, q22, qi, qf]) .loc q3c)))))))))) .ret)))
theorem cf318_ok : compF Go.Proofs.Tryz.prog xi318 = some cf318 := by kernel_rfl
noncomputable def xi319 := xiM 319 Go.Proofs.Tryz.f319 4159
theorem xi319_ok : TabOK Go.Proofs.Tryz.prog [xi319] := tabOK1 Go.Proofs.Tryz.func319 (by kernel_rfl) (by kernel_rfl) rfl rfl
noncomputable def cf319 : FnC := (.mk 4159 41 (.one qan) (.seq (.rg q8r) (.seq qkg (.seq (.rg (.op .no q86 .loc (.op .no q4u .loc (.op .no q4q .loc (.op .no q3d .loc (.op .no qt .loc (.op .no qkf .loc q4g))))))) (.seq qkg qjv)))))
theorem cf319_ok : compF Go.Proofs.Tryz.prog xi319 = some cf319 := by kernel_rfl
noncomputable def xi320 := xiM 320 Go.Proofs.Tryz.f320 17179886351
theorem xi320_ok : TabOK Go.Proofs.Tryz.prog [xi320] := tabOK1 Go.Proofs.Tryz.func320 (by kernel_rfl) (by kernel_rfl) rfl rfl
noncomputable def cf320 : FnC := (.mk 17179886351 53 q90 (.seq qhb (.block 0 (.loop (.seq qhc (.seq (.block 1 (.seq qhd (.block 2 (.loop (.seq (.seq (.rgd (.op .no qgv .loc (.op .no q9c .loc (.op .no qhe .loc (.op .no q15 .loc (.op q5q qhf .loc (.op q5r qc3 .loc (.op q5s qgv .loc (.op q5t qk7 .loc (.op q5u q9a .loc (.op qfz qc3 .loc (.op qg1 qgv .loc (.op qg2 qfb .loc (.op qg3 qk6 .loc (.op qg4 q9a .loc qhi)))))))))))))) 0) qhj) (.seq (.block 3 (.rgd (.op .no qc3 .loc (.op .no qgv .loc (.op .no qc3 .loc (.op .no qgv .loc (.op .no qfb .loc (.op .no qk6 .loc (.op .no q9a .loc (.op .no qc3 .loc (.op .no qgv .loc (.op .no qk7 .loc (.op .no q9a .loc (.op .no (.soft (.ias 2 q9h qem)) .loc (.op .no (.hard (.st 2 qf q2d)) .non (.op .no qc3 .loc (.op .no qgv .loc (.op .no qhm .loc (.op .no qk6 .loc (.op .no (.hard (.st 2 qf q2d)) .non .fin)))))))))))))))))) 0)) qho)))))) qhp))))))
theorem cf320_ok : compF Go.Proofs.Tryz.prog xi320 = some cf320 := by kernel_rfl
noncomputable def xi328 := xiM 328 Go.Proofs.Tryz.f328 17179886351
theorem xi328_ok : TabOK Go.Proofs.Tryz.prog [xi328] := tabOK1 Go.Proofs.Tryz.func328 (by kernel_rfl) (by kernel_rfl) rfl rfl
noncomputable def cf328 : FnC := (.mk 17179886351 53 q90 (.seq qhb (.block 0 (.loop (.seq qhc (.seq (.block 1 (.seq qhd (.block 2 (.loop (.seq (.seq (.rgd (.op .no qgv .loc (.op .no q9c .loc (.op .no qhe .loc (.op .no q15 .loc (.op q5q qhf .loc (.op q5r qc3 .loc (.op q5s qgv .loc (.op q5t qcj .loc (.op q5u qck .loc (.op qfz qc3 .loc (.op qg1 qgv .loc (.op qg2 qfb .loc (.op qg3 qfc .loc (.op qg4 qck .loc qhi)))))))))))))) 0) qhj) (.seq (.block 3 (.rgd (.op .no qc3 .loc (.op .no qgv .loc (.op .no qc3 .loc (.op .no qgv .loc (.op .no qfb .loc (.op .no qfc .loc (.op .no qck .loc (.op .no qc3 .loc (.op .no qgv .loc (.op .no qcj .loc (.op .no qck .loc (.op .no (.soft (.ias 3 q9h qem)) .loc (.op .no (.hard (.st 3 qf q2d)) .non (.op .no qc3 .loc (.op .no qgv .loc (.op .no qhm .loc (.op .no qfc .loc (.op .no (.hard (.st 3 qf q2d)) .non .fin)))))))))))))))))) 0)) qho)))))) qhp))))))
theorem cf328_ok : compF Go.Proofs.Tryz.prog xi328 = some cf328 := by kernel_rfl
noncomputable def xi336 := xiM 336 Go.Proofs.Tryz.f336 1073746119
theorem xi336_ok : TabOK Go.Proofs.Tryz.prog [xi336] := tabOK1 Go.Proofs.Tryz.func336 (by kernel_rfl) (by kernel_rfl) rfl rfl
noncomputable def cf336 : FnC := (.mk 1073746119 49 q90 (.seq (.rg (.op .no q45 .loc (.op .no qae .loc q10))) (.block 0 (.loop (.seq (.seq (.rg (.op .no q4q .loc (.op .no q4u .loc (.op .no q9w qp .fin)))) (.cond qs .skip q1v)) (.seq (.block 1 (.seq (.rg (.op .no q4q .loc q3c)) (.block 2 (.loop (.seq (.seq (.rgd (.op .no q8c .loc (.op .no q9c .loc (.op .no qhe .loc (.op .no q15 .loc (.op q5q qc3 .loc (.op q5r q8c .loc (.op q5s qba .loc (.op q5t q6z .loc (.op q5u qc3 .loc (.op qfz q8c .loc (.op qg1 qfb .loc (.op qg2 qb9 .loc (.op qg3 q6z .loc (.op qg4 (.hard (.call (.lit (.clo 342 [])) [q2d, qf])) .loc (.op .no qjf q19 .fin))))))))))))))) 0) (.cond q1e .skip q8m)) (.seq (.block 3 (.rgd (.op .no qc3 .loc (.op .no q8c .loc (.op .no qc3 .loc (.op .no q8c .loc (.op .no qfb .loc (.op .no qb9 .loc (.op .no q6z .loc (.op .no qc3 .loc (.op .no q8c .loc (.op .no qba .loc (.op .no q6z .loc (.op .no (.soft (.ias 1 q9h qem)) .loc (.op .no qen .non (.op .no qc3 .loc (.op .no q8c .loc (.op .no (.softw q7l 1 (.binOp .sub 3 (.tmp 36) (.const (.int .i64 (.ofNat 1))) 3) (rfR 1073746119 [36, 35, 47, 46, 45, 44, 43, 42, 41, 40, 39, 38, 34, 33] [36])) .loc (.op .no qb9 .loc (.op .no qen .non .fin)))))))))))))))))) 0)) (.rg (.op .no q3d .loc (.op .no q7l .loc q3c))))))))) (.rg (.op .no q4q .loc (.op .no qae .loc q10)))))))))
theorem cf336_ok : compF Go.Proofs.Tryz.prog xi336 = some cf336 := by kernel_rfl
noncomputable def xi342 := xiM 342 Go.Proofs.Tryz.f342 19
theorem xi342_ok : TabOK Go.Proofs.Tryz.prog [xi342] := tabOK1 Go.Proofs.Tryz.func342 (by kernel_rfl) (by kernel_rfl) rfl rfl
noncomputable def cf342 : FnC := (.mk 19 17 q2m (.seq qej (.seq (.rg (.op .no q86 .loc (.op .no q9r .loc (.op .no qg .loc (.op q5q q45 .loc (.op q5r q9r .loc (.op q5s q78 .loc (.op .no qea .loc (.op .no qg .loc (.op q2r q86 .loc (.op q2t q45 .loc (.op q2u q9w .loc (.op .no q2w .loc q3f))))))))))))) .ret)))
theorem cf342_ok : compF Go.Proofs.Tryz.prog xi342 = some cf342 := by kernel_rfl
noncomputable def xi348 := xiM 348 Go.Proofs.Tryz.f348 4197407
theorem xi348_ok : TabOK Go.Proofs.Tryz.prog [xi348] := tabOK1 Go.Proofs.Tryz.func348 (by kernel_rfl) (by kernel_rfl) rfl rfl
noncomputable def cf348 : FnC := (.mk 4197407 32 qd6 (.seq qkb (.seq (.seq (.rgd (.op .no q8c .loc (.op .no qc3 .loc (.op .no qbx .loc (.op .no qjk .loc (.op .no qjj .loc (.op .no qc3 .loc (.op .no q9c .loc (.op .no qjk .loc (.op .no qjj .loc qkc))))))))) 0) qkd) qke)))
theorem cf348_ok : compF Go.Proofs.Tryz.prog xi348 = some cf348 := by kernel_rfl
end
end Go.Proofs.YteodgliliglipaaGreatDoor.V.I
namespace Go.Proofs.YteodgliliglipaaGreatDoor.V
open Go
def lnErr (k C : Int) : Int := if 1 ≤ k ∧ k ≤ 4 ∧ -4096 ≤ C ∧ C ≤ 4096 then 0 else 1
abbrev nLnCheck : FuncId := 63
def kLnCheck : Kon
 | [.agg [.int .u8 k, .int .i64 C]] => some (True, .int .i64 (lnErr k C))
 | _ => none
def FLnCheck : Fam := ⟨Int × Int, fun (k, C) => [.agg [.int .u8 k, .int .i64 C]], fun (k, C) => True, fun (k, C) => .int .i64 (lnErr k C)⟩
set_option maxHeartbeats 4000000 in
set_option maxRecDepth 100000 in
theorem pLnCheck : PS nLnCheck kLnCheck := by
 refine con [] (by simp) FLnCheck (fun _ _ => none) kLnCheck ?_ ?_ Go.Proofs.Tryz.func63 (by kernel_rfl) (by kernel_rfl) (by kernel_rfl) ?_
 ·
  intro args pre s h hp
  unfold kLnCheck at h
  split at h
  ·
   rename_i k C; cases h; exact ⟨(k, C), by simp [FLnCheck, le2L, SV.le2, SV.le1, le0L, SV.le0], hp, rfl⟩
  ·
   cases h
 ·
  intro i; show 1 ≤ _; decide
 ·
  rintro ⟨k, C⟩ hp
  replace hp : True := hp
  repeat' (first | ((with_reducible refine And.intro (Ask.mk ?_) ?_); first | exact trivial | exact fun _ => trivial) | with_reducible refine And.intro ?_ ?_ | ((with_reducible refine Br.litT ?_ ?_); exact (Eq.refl true)) | ((with_reducible refine Br.litF ?_ ?_); exact (Eq.refl false)) | with_reducible refine Br.mk (fun h => ?_) (fun h => ?_) | with_reducible exact True.intro | with_reducible refine rowEq ?_ | with_reducible refine Ub.mk (fun hu => ?_) | ((with_reducible refine Late.mk ?_); exact rfl) | ((fail_if_success (with_reducible first | refine stopA ?_ | refine stopE ?_ | refine stopF ?_ | refine Exists.intro ?_ ?_ | intro _ | refine stopK ?_ | refine stopL ?_)); conv => whnf))
  all_goals (try with_reducible refine Ask.mk ?_)
  all_goals (try first | exact trivial | exact fun _ => trivial)
  all_goals (try dsimp only)
  all_goals (simp [lnErr] at h ⊢; omega)
def ptErr (x y : Int) : Int := if -65536 ≤ x ∧ x ≤ 65536 ∧ -65536 ≤ y ∧ y ≤ 65536 then 0 else 1
abbrev nPtCheck : FuncId := 261
def kPtCheck : Kon
 | [.agg [.int .i64 x, .int .i64 y]] => some (True, .int .i64 (ptErr x y))
 | _ => none
def FPtCheck : Fam := ⟨Int × Int, fun (x, y) => [.agg [.int .i64 x, .int .i64 y]], fun (x, y) => True, fun (x, y) => .int .i64 (ptErr x y)⟩
set_option maxHeartbeats 4000000 in
set_option maxRecDepth 100000 in
theorem pPtCheck : PS nPtCheck kPtCheck := by
 refine con [] (by simp) FPtCheck (fun _ _ => none) kPtCheck ?_ ?_ Go.Proofs.Tryz.func261 (by kernel_rfl) (by kernel_rfl) (by kernel_rfl) ?_
 ·
  intro args pre s h hp
  unfold kPtCheck at h
  split at h
  ·
   rename_i x y; cases h; exact ⟨(x, y), by simp [FPtCheck, le2L, SV.le2, SV.le1, le0L, SV.le0], hp, rfl⟩
  ·
   cases h
 ·
  intro i; show 1 ≤ _; decide
 ·
  rintro ⟨x, y⟩ hp
  replace hp : True := hp
  repeat' (first | ((with_reducible refine And.intro (Ask.mk ?_) ?_); first | exact trivial | exact fun _ => trivial) | with_reducible refine And.intro ?_ ?_ | ((with_reducible refine Br.litT ?_ ?_); exact (Eq.refl true)) | ((with_reducible refine Br.litF ?_ ?_); exact (Eq.refl false)) | with_reducible refine Br.mk (fun h => ?_) (fun h => ?_) | with_reducible exact True.intro | with_reducible refine rowEq ?_ | with_reducible refine Ub.mk (fun hu => ?_) | ((with_reducible refine Late.mk ?_); exact rfl) | ((fail_if_success (with_reducible first | refine stopA ?_ | refine stopE ?_ | refine stopF ?_ | refine Exists.intro ?_ ?_ | intro _ | refine stopK ?_ | refine stopL ?_)); conv => whnf))
  all_goals (try with_reducible refine Ask.mk ?_)
  all_goals (try first | exact trivial | exact fun _ => trivial)
  all_goals (try dsimp only)
  all_goals (simp [ptErr] at h ⊢; omega)
theorem ptErr_zero {x y : Int} (h : ptErr x y = 0) : -65536 ≤ x ∧ x ≤ 65536 ∧ -65536 ≤ y ∧ y ≤ 65536 := by
 unfold ptErr at h
 split at h
 ·
  assumption
 ·
  cases h
def tA (t : Int) : Int := tb [1, 0, -1, 0, -1, 0, 1, 0] t.toNat
def tB (t : Int) : Int := tb [0, -1, 0, 1, 0, -1, 0, 1] t.toNat
def tC (t : Int) : Int := tb [0, 1, 0, -1, 0, -1, 0, 1] t.toNat
def tD (t : Int) : Int := tb [1, 0, -1, 0, 1, 0, -1, 0] t.toNat
def unitI (a : Int) : Prop := -1 ≤ a ∧ a ≤ 1
theorem t_unit {t : Int} (h0 : 0 ≤ t) (h1 : t < 8) : unitI (tA t) ∧ unitI (tB t) ∧ unitI (tC t) ∧ unitI (tD t) := by
 have : ∀ q : Nat, q < 8 → unitI (tA q) ∧ unitI (tB q) ∧ unitI (tC q) ∧ unitI (tD q) := by unfold unitI; decide
 have := this t.toNat (by omega)
 rwa [Int.toNat_of_nonneg h0] at this
theorem unit_mul {a x : Int} (h : unitI a) : a * x = 0 ∨ a * x = x ∨ a * x = -x := by
 have h1 := h.1
 have h2 := h.2
 have : a = -1 ∨ a = 0 ∨ a = 1 := by omega
 rcases this with rfl | rfl | rfl <;> simp
abbrev nMatOf : FuncId := 129
def kMatOf : Kon
 | [.agg [.int .i64 a, .int .i64 b, .int .i64 c, .int .i64 d], .int .i64 x, .int .i64 y] => some (unitI a ∧ unitI b ∧ unitI c ∧ unitI d ∧ -1000000 ≤ x ∧ x ≤ 1000000 ∧ -1000000 ≤ y ∧ y ≤ 1000000, .tup [.int .i64 (a * x + b * y), .int .i64 (c * x + d * y)])
 | _ => none
def FMatOf : Fam := ⟨Int × Int × Int × Int × Int × Int, fun (a, b, c, d, x, y) => [.agg [.int .i64 a, .int .i64 b, .int .i64 c, .int .i64 d], .int .i64 x, .int .i64 y], fun (a, b, c, d, x, y) => unitI a ∧ unitI b ∧ unitI c ∧ unitI d ∧ -1000000 ≤ x ∧ x ≤ 1000000 ∧ -1000000 ≤ y ∧ y ≤ 1000000, fun (a, b, c, d, x, y) => .tup [.int .i64 (a * x + b * y), .int .i64 (c * x + d * y)]⟩
set_option maxHeartbeats 4000000 in
set_option maxRecDepth 100000 in
theorem pMatOf : PS nMatOf kMatOf := by
 refine con [] (by simp) FMatOf (fun _ _ => none) kMatOf ?_ ?_ Go.Proofs.Tryz.func129 (by kernel_rfl) (by kernel_rfl) (by kernel_rfl) ?_
 ·
  intro args pre s h hp
  unfold kMatOf at h
  split at h
  ·
   rename_i a b c d x y; cases h; exact ⟨(a, b, c, d, x, y), by simp [FMatOf, le2L, SV.le2, SV.le1, le0L, SV.le0], hp, rfl⟩
  ·
   cases h
 ·
  intro i; show 3 ≤ _; decide
 ·
  rintro ⟨a, b, c, d, x, y⟩ hp
  replace hp : unitI a ∧ unitI b ∧ unitI c ∧ unitI d ∧ -1000000 ≤ x ∧ x ≤ 1000000 ∧ -1000000 ≤ y ∧ y ≤ 1000000 := hp
  obtain ⟨ha, hb, hc, hd, hx⟩ := hp
  have e1 := unit_mul (x := x) ha
  have e2 := unit_mul (x := y) hb
  have e3 := unit_mul (x := x) hc
  have e4 := unit_mul (x := y) hd
  repeat' (first | ((with_reducible refine And.intro (Ask.mk ?_) ?_); first | exact trivial | exact fun _ => trivial) | with_reducible refine And.intro ?_ ?_ | ((with_reducible refine Br.litT ?_ ?_); exact (Eq.refl true)) | ((with_reducible refine Br.litF ?_ ?_); exact (Eq.refl false)) | with_reducible refine Br.mk (fun h => ?_) (fun h => ?_) | with_reducible exact True.intro | with_reducible refine rowEq ?_ | with_reducible refine Ub.mk (fun hu => ?_) | ((with_reducible refine Late.mk ?_); exact rfl) | ((fail_if_success (with_reducible first | refine stopA ?_ | refine stopE ?_ | refine stopF ?_ | refine Exists.intro ?_ ?_ | intro _ | refine stopK ?_ | refine stopL ?_)); conv => whnf))
  all_goals (try with_reducible refine Ask.mk ?_)
  all_goals (try first | exact trivial | exact fun _ => trivial)
  all_goals (try dsimp only)
  all_goals (first | rfl | (simp only [inK]; omega))
abbrev nMatThen : FuncId := 132
def kMatThen : Kon
 | [.agg [.int .i64 a, .int .i64 b, .int .i64 c, .int .i64 d], .agg [.int .i64 p, .int .i64 q, .int .i64 r, .int .i64 s]] => some ((unitI a ∧ unitI b ∧ unitI c ∧ unitI d) ∧ unitI p ∧ unitI q ∧ unitI r ∧ unitI s, .agg [.int .i64 (p * a + q * c), .int .i64 (p * b + q * d), .int .i64 (r * a + s * c), .int .i64 (r * b + s * d)])
 | _ => none
def FMatThen : Fam := ⟨Int × Int × Int × Int × Int × Int × Int × Int, fun (a, b, c, d, p, q, r, s) => [.agg [.int .i64 a, .int .i64 b, .int .i64 c, .int .i64 d], .agg [.int .i64 p, .int .i64 q, .int .i64 r, .int .i64 s]], fun (a, b, c, d, p, q, r, s) => (unitI a ∧ unitI b ∧ unitI c ∧ unitI d) ∧ unitI p ∧ unitI q ∧ unitI r ∧ unitI s, fun (a, b, c, d, p, q, r, s) => .agg [.int .i64 (p * a + q * c), .int .i64 (p * b + q * d), .int .i64 (r * a + s * c), .int .i64 (r * b + s * d)]⟩
set_option maxHeartbeats 4000000 in
set_option maxRecDepth 100000 in
theorem pMatThen : PS nMatThen kMatThen := by
 refine con [(nMatOf, kMatOf)] (by simpa using pMatOf) FMatThen (fun _ _ => none) kMatThen ?_ ?_ Go.Proofs.Tryz.func132 (by kernel_rfl) (by kernel_rfl) (by kernel_rfl) ?_
 ·
  intro args pre s h hp
  unfold kMatThen at h
  split at h
  ·
   rename_i a b c d p q r s; cases h; exact ⟨(a, b, c, d, p, q, r, s), by simp [FMatThen, le2L, SV.le2, SV.le1, le0L, SV.le0], hp, rfl⟩
  ·
   cases h
 ·
  intro i; show 2 ≤ _; decide
 ·
  rintro ⟨a, b, c, d, p, q, r, s⟩ hp
  replace hp : (unitI a ∧ unitI b ∧ unitI c ∧ unitI d) ∧ unitI p ∧ unitI q ∧ unitI r ∧ unitI s := hp
  obtain ⟨⟨ha, hb, hc, hd⟩, hP, hQ, hR, hS⟩ := hp
  repeat' (first | ((with_reducible refine And.intro (Ask.mk ?_) ?_); first | exact trivial | exact fun _ => trivial) | with_reducible refine And.intro ?_ ?_ | ((with_reducible refine Br.litT ?_ ?_); exact (Eq.refl true)) | ((with_reducible refine Br.litF ?_ ?_); exact (Eq.refl false)) | with_reducible refine Br.mk (fun h => ?_) (fun h => ?_) | with_reducible exact True.intro | with_reducible refine rowEq ?_ | with_reducible refine Ub.mk (fun hu => ?_) | ((with_reducible refine Late.mk ?_); exact rfl) | ((fail_if_success (with_reducible first | refine stopA ?_ | refine stopE ?_ | refine stopF ?_ | refine Exists.intro ?_ ?_ | intro _ | refine stopK ?_ | refine stopL ?_)); conv => whnf))
  all_goals (try with_reducible refine Ask.mk ?_)
  all_goals (try first | exact trivial | exact fun _ => trivial)
  all_goals (try dsimp only)
  all_goals (first | rfl | (simp only [unitI] at *; refine ⟨hP, hQ, hR, hS, ?_⟩; omega))
def rowM (i : Nat) (a b c d : Int) : Bool := decide (tb [1, 0, -1, 0, -1, 0, 1, 0] i = a) && (decide (tb [0, -1, 0, 1, 0, -1, 0, 1] i = b) && (decide (tb [0, 1, 0, -1, 0, -1, 0, 1] i = c) && (decide (tb [1, 0, -1, 0, 1, 0, -1, 0] i = d) && true)))
def numF (l : List Nat) (a b c d : Int) : Int := match l with
 | [] => 0
 | i :: l => bif rowM i a b c d then i else numF l a b c d
def numM (a b c d : Int) : Int := numF [0, 1, 2, 3, 4, 5, 6, 7] a b c d
def turnsAgg : SV := .agg (turnsRow 0 ++ turnsRow 1 ++ turnsRow 2 ++ turnsRow 3 ++ turnsRow 4 ++ turnsRow 5 ++ turnsRow 6 ++ turnsRow 7)
def INum : Int × Int × Int × Int → Nat → Option Inv
 | (a, b, c, d), 2 => some { β := Nat, ok := fun i => i ≤ 8 ∧ numM a b c d = numF ([0, 1, 2, 3, 4, 5, 6, 7].drop i) a b c d, st := fun i => ⟨[⟨6, none, .int .i64 i⟩, ⟨5, none, turnsAgg⟩, ⟨2, none, .int .u8 0⟩, ⟨1, none, .own 0 0⟩], [.cells 221 [.int .i64 a, .int .i64 b, .int .i64 c, .int .i64 d]]⟩, μ := fun i => 8 - i }
 | _, _ => none
theorem num_step (i : Nat) (l : List Nat) (a b c d : Int) (h : rowM i a b c d = false) : numF (i :: l) a b c d = numF l a b c d := by
 rw [numF, h, cond_false]
theorem num_hit (i : Nat) (l : List Nat) (a b c d : Int) (h : rowM i a b c d = true) : numF (i :: l) a b c d = i := by
 rw [numF, h, cond_true]
abbrev nNumber : FuncId := 131
def kNumber : Kon
 | [.agg [.int .i64 a, .int .i64 b, .int .i64 c, .int .i64 d]] => some (True, .int .u8 (numM a b c d))
 | _ => none
def FNumber : Fam := ⟨Int × Int × Int × Int, fun (a, b, c, d) => [.agg [.int .i64 a, .int .i64 b, .int .i64 c, .int .i64 d]], fun (a, b, c, d) => True, fun (a, b, c, d) => .int .u8 (numM a b c d)⟩
set_option maxHeartbeats 4000000 in
set_option maxRecDepth 100000 in
theorem pNumber : PS nNumber kNumber := by
 refine con [] (by simp) FNumber INum kNumber ?_ ?_ Go.Proofs.Tryz.func131 (by kernel_rfl) (by kernel_rfl) (by kernel_rfl) ?_
 ·
  intro args pre s h hp
  unfold kNumber at h
  split at h
  ·
   rename_i a b c d; cases h; exact ⟨(a, b, c, d), by simp [FNumber, le2L, SV.le2, SV.le1, le0L, SV.le0], hp, rfl⟩
  ·
   cases h
 ·
  intro i; show 1 ≤ _; decide
 ·
  rintro ⟨a, b, c, d⟩ hp
  replace hp : True := hp
  repeat' (first | ((with_reducible refine And.intro (Ask.mk ?_) ?_); first | exact trivial | exact fun _ => trivial) | with_reducible refine And.intro ?_ ?_ | ((with_reducible refine Br.litT ?_ ?_); exact (Eq.refl true)) | ((with_reducible refine Br.litF ?_ ?_); exact (Eq.refl false)) | with_reducible refine Br.mk (fun h => ?_) (fun h => ?_) | with_reducible exact True.intro | with_reducible refine rowEq ?_ | with_reducible refine Ub.mk (fun hu => ?_) | ((with_reducible refine Late.mk ?_); exact rfl) | ((fail_if_success (with_reducible first | refine stopA ?_ | refine stopE ?_ | refine stopF ?_ | refine Exists.intro ?_ ?_ | intro _ | refine stopK ?_ | refine stopL ?_)); conv => whnf))
  all_goals (try with_reducible refine Ask.mk ?_)
  all_goals (try first | exact trivial | exact fun _ => trivial)
  all_goals (try dsimp only)
  refine ⟨(0 : Nat), ⟨by omega, rfl⟩, ?_, ?_⟩
  ·
   repeat' (first | ((with_reducible refine And.intro (Ask.mk ?_) ?_); first | exact trivial | exact fun _ => trivial) | with_reducible refine And.intro ?_ ?_ | ((with_reducible refine Br.litT ?_ ?_); exact (Eq.refl true)) | ((with_reducible refine Br.litF ?_ ?_); exact (Eq.refl false)) | with_reducible refine Br.mk (fun h => ?_) (fun h => ?_) | with_reducible exact True.intro | with_reducible refine rowEq ?_ | with_reducible refine Ub.mk (fun hu => ?_) | ((with_reducible refine Late.mk ?_); exact rfl) | ((fail_if_success (with_reducible first | refine stopA ?_ | refine stopE ?_ | refine stopF ?_ | refine Exists.intro ?_ ?_ | intro _ | refine stopK ?_ | refine stopL ?_)); conv => whnf))
   all_goals (try with_reducible refine Ask.mk ?_)
   all_goals (try first | exact trivial | exact fun _ => trivial)
   all_goals (try dsimp only)
   all_goals first | rfl | exact fun _ _ => rfl | skip
  ·
   intro i hi
   obtain ⟨hi1, hi2⟩ := hi
   have : i = 0 ∨ i = 1 ∨ i = 2 ∨ i = 3 ∨ i = 4 ∨ i = 5 ∨ i = 6 ∨ i = 7 ∨ i = 8 := by omega
   rcases this with rfl | rfl | rfl | rfl | rfl | rfl | rfl | rfl | rfl
   all_goals replace hi2 := hi2
   repeat' (first | ((with_reducible refine And.intro (Ask.mk ?_) ?_); first | exact trivial | exact fun _ => trivial) | with_reducible refine And.intro ?_ ?_ | ((with_reducible refine Br.litT ?_ ?_); exact (Eq.refl true)) | ((with_reducible refine Br.litF ?_ ?_); exact (Eq.refl false)) | with_reducible refine Br.mk (fun h => ?_) (fun h => ?_) | with_reducible exact True.intro | with_reducible refine rowEq ?_ | with_reducible refine Ub.mk (fun hu => ?_) | ((with_reducible refine Late.mk ?_); exact rfl) | ((fail_if_success (with_reducible first | refine stopA ?_ | refine stopE ?_ | refine stopF ?_ | refine Exists.intro ?_ ?_ | intro _ | refine stopK ?_ | refine stopL ?_)); conv => whnf))
   all_goals (try with_reducible refine Ask.mk ?_)
   all_goals (try first | exact trivial | exact fun _ => trivial)
   all_goals (try dsimp only)
   all_goals (first
    | decide
    | (simp only [inK]; omega)
    | exact hi2.symm
    | exact (hi2.trans (num_hit _ _ _ _ _ _ h)).symm
    | (first | refine ⟨(1 : Nat), ⟨by decide, hi2.trans (num_step 0 _ _ _ _ _ h)⟩, by decide, ?_⟩ | refine ⟨(2 : Nat), ⟨by decide, hi2.trans (num_step 1 _ _ _ _ _ h)⟩, by decide, ?_⟩ | refine ⟨(3 : Nat), ⟨by decide, hi2.trans (num_step 2 _ _ _ _ _ h)⟩, by decide, ?_⟩ | refine ⟨(4 : Nat), ⟨by decide, hi2.trans (num_step 3 _ _ _ _ _ h)⟩, by decide, ?_⟩ | refine ⟨(5 : Nat), ⟨by decide, hi2.trans (num_step 4 _ _ _ _ _ h)⟩, by decide, ?_⟩ | refine ⟨(6 : Nat), ⟨by decide, hi2.trans (num_step 5 _ _ _ _ _ h)⟩, by decide, ?_⟩ | refine ⟨(7 : Nat), ⟨by decide, hi2.trans (num_step 6 _ _ _ _ _ h)⟩, by decide, ?_⟩ | refine ⟨(8 : Nat), ⟨by decide, hi2.trans (num_step 7 _ _ _ _ _ h)⟩, by decide, ?_⟩))
   repeat' (first | ((with_reducible refine And.intro (Ask.mk ?_) ?_); first | exact trivial | exact fun _ => trivial) | with_reducible refine And.intro ?_ ?_ | ((with_reducible refine Br.litT ?_ ?_); exact (Eq.refl true)) | ((with_reducible refine Br.litF ?_ ?_); exact (Eq.refl false)) | with_reducible refine Br.mk (fun h => ?_) (fun h => ?_) | with_reducible exact True.intro | with_reducible refine rowEq ?_ | with_reducible refine Ub.mk (fun hu => ?_) | ((with_reducible refine Late.mk ?_); exact rfl) | ((fail_if_success (with_reducible first | refine stopA ?_ | refine stopE ?_ | refine stopF ?_ | refine Exists.intro ?_ ?_ | intro _ | refine stopK ?_ | refine stopL ?_)); conv => whnf))
   all_goals (try with_reducible refine Ask.mk ?_)
   all_goals (try first | exact trivial | exact fun _ => trivial)
   all_goals (try dsimp only)
   all_goals first | rfl | exact fun _ _ => rfl | omega
def cT (t u : Int) : Int := numM (tA u * tA t + tB u * tC t) (tA u * tB t + tB u * tD t) (tC u * tA t + tD u * tC t) (tC u * tB t + tD u * tD t)
theorem cT_le {t u : Int} (h0 : 0 ≤ t) (h1 : t < 8) (k0 : 0 ≤ u) (k1 : u < 8) : 0 ≤ cT t u ∧ cT t u < 8 := by
 have : ∀ q : Nat, q < 8 → ∀ r : Nat, r < 8 → 0 ≤ cT q r ∧ cT q r < 8 := by decide +kernel
 have := this t.toNat (by omega) u.toNat (by omega)
 rwa [Int.toNat_of_nonneg h0, Int.toNat_of_nonneg k0] at this
abbrev nBeyond : FuncId := 202
def kBeyond : Kon
 | [.int .i64 n] => some (True, .bool (or (decide (n < -16384)) (decide (16384 < n))))
 | _ => none
def FBeyond : Fam := ⟨Int, fun n => [.int .i64 n], fun n => True, fun n => .bool (or (decide (n < -16384)) (decide (16384 < n)))⟩
set_option maxHeartbeats 4000000 in
set_option maxRecDepth 100000 in
theorem pBeyond : PS nBeyond kBeyond := by
 refine con [] (by simp) FBeyond (fun _ _ => none) kBeyond ?_ ?_ Go.Proofs.Tryz.func202 (by kernel_rfl) (by kernel_rfl) (by kernel_rfl) ?_
 ·
  intro args pre s h hp
  unfold kBeyond at h
  split at h
  ·
   rename_i n; cases h; exact ⟨n, by simp [FBeyond, le2L, SV.le2, SV.le1, le0L, SV.le0], hp, rfl⟩
  ·
   cases h
 ·
  intro i; show 1 ≤ _; decide
 ·
  intro (n : Int) hp
  replace hp : True := hp
  repeat' (first | ((with_reducible refine And.intro (Ask.mk ?_) ?_); first | exact trivial | exact fun _ => trivial) | with_reducible refine And.intro ?_ ?_ | ((with_reducible refine Br.litT ?_ ?_); exact (Eq.refl true)) | ((with_reducible refine Br.litF ?_ ?_); exact (Eq.refl false)) | with_reducible refine Br.mk (fun h => ?_) (fun h => ?_) | with_reducible exact True.intro | with_reducible refine rowEq ?_ | with_reducible refine Ub.mk (fun hu => ?_) | ((with_reducible refine Late.mk ?_); exact rfl) | ((fail_if_success (with_reducible first | refine stopA ?_ | refine stopE ?_ | refine stopF ?_ | refine Exists.intro ?_ ?_ | intro _ | refine stopK ?_ | refine stopL ?_)); conv => whnf))
  all_goals (try with_reducible refine Ask.mk ?_)
  all_goals (try first | exact trivial | exact fun _ => trivial)
  all_goals (try dsimp only)
  all_goals rfl
def mvErr (t x y : Int) : Int := if t < 8 ∧ -16384 ≤ x ∧ x ≤ 16384 ∧ -16384 ≤ y ∧ y ≤ 16384 ∧ (x + y) % 2 = 0 then 0 else 1
theorem mvErr_zero {t x y : Int} (h : mvErr t x y = 0) : t < 8 ∧ -16384 ≤ x ∧ x ≤ 16384 ∧ -16384 ≤ y ∧ y ≤ 16384 ∧ (x + y) % 2 = 0 := by
 unfold mvErr at h
 split at h
 ·
  assumption
 ·
  cases h
theorem tmod2 (n : Int) : n.tmod 2 = 0 ↔ n % 2 = 0 := by
 rw [← Int.dvd_iff_emod_eq_zero, Int.dvd_iff_tmod_eq_zero]
abbrev nMvCheck : FuncId := 128
def kMvCheck : Kon
 | [.agg [.int .u8 t, .int .i64 x, .int .i64 y]] => some (0 ≤ t ∧ t ≤ 255, .int .i64 (mvErr t x y))
 | _ => none
def FMvCheck : Fam := ⟨Int × Int × Int, fun (t, x, y) => [.agg [.int .u8 t, .int .i64 x, .int .i64 y]], fun (t, x, y) => 0 ≤ t ∧ t ≤ 255, fun (t, x, y) => .int .i64 (mvErr t x y)⟩
set_option maxHeartbeats 4000000 in
set_option maxRecDepth 100000 in
theorem pMvCheck : PS nMvCheck kMvCheck := by
 refine con [(nBeyond, kBeyond)] (by simpa using pBeyond) FMvCheck (fun _ _ => none) kMvCheck ?_ ?_ Go.Proofs.Tryz.func128 (by kernel_rfl) (by kernel_rfl) (by kernel_rfl) ?_
 ·
  intro args pre s h hp
  unfold kMvCheck at h
  split at h
  ·
   rename_i t x y; cases h; exact ⟨(t, x, y), by simp [FMvCheck, le2L, SV.le2, SV.le1, le0L, SV.le0], hp, rfl⟩
  ·
   cases h
 ·
  intro i; show 1 ≤ _; decide
 ·
  rintro ⟨t, x, y⟩ hp
  replace hp : 0 ≤ t ∧ t ≤ 255 := hp
  repeat' (first | ((with_reducible refine And.intro (Ask.mk ?_) ?_); first | exact trivial | exact fun _ => trivial) | with_reducible refine And.intro ?_ ?_ | ((with_reducible refine Br.litT ?_ ?_); exact (Eq.refl true)) | ((with_reducible refine Br.litF ?_ ?_); exact (Eq.refl false)) | with_reducible refine Br.mk (fun h => ?_) (fun h => ?_) | with_reducible exact True.intro | with_reducible refine rowEq ?_ | with_reducible refine Ub.mk (fun hu => ?_) | ((with_reducible refine Late.mk ?_); exact rfl) | ((fail_if_success (with_reducible first | refine stopA ?_ | refine stopE ?_ | refine stopF ?_ | refine Exists.intro ?_ ?_ | intro _ | refine stopK ?_ | refine stopL ?_)); conv => whnf))
  all_goals (try with_reducible refine Ask.mk ?_)
  all_goals (try first | exact trivial | exact fun _ => trivial)
  all_goals (try dsimp only)
  all_goals (try (simp only [Bool.or_eq_true, Bool.or_eq_false_iff, Bool.not_eq_true', Bool.not_eq_false', decide_eq_true_eq, decide_eq_false_iff_not] at *))
  all_goals (first
   | decide
   | (simp only [inK]; omega)
   | (unfold mvErr; rw [if_neg (by omega)])
   | (intro _; decide)
   | (intros; simp only [inK]; omega)
   | (intros; unfold mvErr; rw [if_neg (by omega)])
   | (have e := tmod2 (x + y); unfold mvErr; rw [if_pos (by omega)])
   | (have e := tmod2 (x + y); unfold mvErr; rw [if_neg (by omega)]))
def lmE (t x y : Int) : Int := if mvErr t x y = 0 then 0 else 3
def keep (e v : Int) : Int := if e = 0 then v else 0
abbrev nLimited : FuncId := 130
def kLimited : Kon
 | [.agg [.int .u8 t, .int .i64 x, .int .i64 y]] => some (0 ≤ t ∧ t ≤ 255, .tup [.agg [.int .u8 (keep (lmE t x y) t), .int .i64 (keep (lmE t x y) x), .int .i64 (keep (lmE t x y) y)], .int .i64 (lmE t x y)])
 | _ => none
def FLimited : Fam := ⟨Int × Int × Int, fun (t, x, y) => [.agg [.int .u8 t, .int .i64 x, .int .i64 y]], fun (t, x, y) => 0 ≤ t ∧ t ≤ 255, fun (t, x, y) => .tup [.agg [.int .u8 (keep (lmE t x y) t), .int .i64 (keep (lmE t x y) x), .int .i64 (keep (lmE t x y) y)], .int .i64 (lmE t x y)]⟩
set_option maxHeartbeats 4000000 in
set_option maxRecDepth 100000 in
theorem pLimited : PS nLimited kLimited := by
 refine con [(nMvCheck, kMvCheck)] (by simpa using pMvCheck) FLimited (fun _ _ => none) kLimited ?_ ?_ Go.Proofs.Tryz.func130 (by kernel_rfl) (by kernel_rfl) (by kernel_rfl) ?_
 ·
  intro args pre s h hp
  unfold kLimited at h
  split at h
  ·
   rename_i t x y; cases h; exact ⟨(t, x, y), by simp [FLimited, le2L, SV.le2, SV.le1, le0L, SV.le0], hp, rfl⟩
  ·
   cases h
 ·
  intro i; show 1 ≤ _; decide
 ·
  rintro ⟨t, x, y⟩ hp
  replace hp : 0 ≤ t ∧ t ≤ 255 := hp
  repeat' (first | ((with_reducible refine And.intro (Ask.mk ?_) ?_); first | exact trivial | exact fun _ => trivial) | with_reducible refine And.intro ?_ ?_ | ((with_reducible refine Br.litT ?_ ?_); exact (Eq.refl true)) | ((with_reducible refine Br.litF ?_ ?_); exact (Eq.refl false)) | with_reducible refine Br.mk (fun h => ?_) (fun h => ?_) | with_reducible exact True.intro | with_reducible refine rowEq ?_ | with_reducible refine Ub.mk (fun hu => ?_) | ((with_reducible refine Late.mk ?_); exact rfl) | ((fail_if_success (with_reducible first | refine stopA ?_ | refine stopE ?_ | refine stopF ?_ | refine Exists.intro ?_ ?_ | intro _ | refine stopK ?_ | refine stopL ?_)); conv => whnf))
  all_goals (try with_reducible refine Ask.mk ?_)
  all_goals (try first | exact trivial | exact fun _ => trivial)
  all_goals (try dsimp only)
  all_goals (try exact hp)
  all_goals (simp only [Bool.not_eq_true', Bool.not_eq_false', decide_eq_true_eq, decide_eq_false_iff_not] at h)
  all_goals (simp [keep, lmE, h])
def turnX (t x y : Int) : Int := tA t * x + tB t * y
def turnY (t x y : Int) : Int := tC t * x + tD t * y
def thE (t x y u z w : Int) : Int := if mvErr t x y = 0 ∧ mvErr u z w = 0 then lmE (cT t u) (turnX u x y + z) (turnY u x y + w) else 1
def thT (t x y u z w : Int) : Int := keep (thE t x y u z w) (cT t u)
def thX (t x y u z w : Int) : Int := keep (thE t x y u z w) (turnX u x y + z)
def thY (t x y u z w : Int) : Int := keep (thE t x y u z w) (turnY u x y + w)
theorem turn_le {t x y B : Int} (h0 : 0 ≤ t) (h1 : t < 8) (a1 : -B ≤ x) (a2 : x ≤ B) (b1 : -B ≤ y) (b2 : y ≤ B) : -(2 * B) ≤ turnX t x y ∧ turnX t x y ≤ 2 * B ∧ -(2 * B) ≤ turnY t x y ∧ turnY t x y ≤ 2 * B := by
 obtain ⟨ha, hb, hc, hd⟩ := t_unit h0 h1
 have e1 := unit_mul (x := x) ha
 have e2 := unit_mul (x := y) hb
 have e3 := unit_mul (x := x) hc
 have e4 := unit_mul (x := y) hd
 unfold turnX turnY
 omega
abbrev nThen : FuncId := 58
def kThen : Kon
 | [.agg [.int .u8 t, .int .i64 x, .int .i64 y], .agg [.int .u8 u, .int .i64 z, .int .i64 w]] => some ((0 ≤ t ∧ t ≤ 255) ∧ 0 ≤ u ∧ u ≤ 255, .tup [.agg [.int .u8 (thT t x y u z w), .int .i64 (thX t x y u z w), .int .i64 (thY t x y u z w)], .int .i64 (thE t x y u z w)])
 | _ => none
def FThen : Fam := ⟨Int × Int × Int × Int × Int × Int, fun (t, x, y, u, z, w) => [.agg [.int .u8 t, .int .i64 x, .int .i64 y], .agg [.int .u8 u, .int .i64 z, .int .i64 w]], fun (t, x, y, u, z, w) => (0 ≤ t ∧ t ≤ 255) ∧ 0 ≤ u ∧ u ≤ 255, fun (t, x, y, u, z, w) => .tup [.agg [.int .u8 (thT t x y u z w), .int .i64 (thX t x y u z w), .int .i64 (thY t x y u z w)], .int .i64 (thE t x y u z w)]⟩
set_option maxHeartbeats 4000000 in
set_option maxRecDepth 100000 in
theorem pThen : PS nThen kThen := by
  refine con [(nMvCheck, kMvCheck), (nMatOf, kMatOf), (nMatThen, kMatThen), (nNumber, kNumber), (nLimited, kLimited)] (by simpa using ⟨pMvCheck, pMatOf, pMatThen, pNumber, pLimited⟩) FThen (fun _ _ => none) kThen ?_ ?_ Go.Proofs.Tryz.func58 (by kernel_rfl) (by kernel_rfl) (by kernel_rfl) ?_
  · intro args pre s h hp
    unfold kThen at h
    split at h
    · rename_i t x y u z w; cases h; exact ⟨(t, x, y, u, z, w), by simp [FThen, le2L, SV.le2, SV.le1, le0L, SV.le0], hp, rfl⟩
    · cases h
  · intro i; show 2 ≤ _; decide
  · rintro ⟨t, x, y, u, z, w⟩ hp
    replace hp : (0 ≤ t ∧ t ≤ 255) ∧ 0 ≤ u ∧ u ≤ 255 := hp
    repeat' (first | ((with_reducible refine And.intro (Ask.mk ?_) ?_); first | exact trivial | exact fun _ => trivial) | with_reducible refine And.intro ?_ ?_ | ((with_reducible refine Br.litT ?_ ?_); exact (Eq.refl true)) | ((with_reducible refine Br.litF ?_ ?_); exact (Eq.refl false)) | with_reducible refine Br.mk (fun h => ?_) (fun h => ?_) | with_reducible exact True.intro | with_reducible refine rowEq ?_ | with_reducible refine Ub.mk (fun hu => ?_) | ((with_reducible refine Late.mk ?_); exact rfl) | ((fail_if_success (with_reducible first | refine stopA ?_ | refine stopE ?_ | refine stopF ?_ | refine Exists.intro ?_ ?_ | intro _ | refine stopK ?_ | refine stopL ?_)); conv => whnf))
    all_goals (try with_reducible refine Ask.mk ?_)
    all_goals (try first | exact trivial | exact fun _ => trivial)
    all_goals (try dsimp only)
    all_goals (first
      | exact hp.1
      | exact fun _ => hp.2
      | (have e : thE t x y u z w = 1 := by grind [thE]
         simp [thT, thX, thY, keep, e]; done)
      | (rw [Bool.or_eq_false_iff] at h
         have e1 : mvErr t x y = 0 := by simpa using h.1
         have e2 : mvErr u z w = 0 := by simpa using h.2
         have m1 := mvErr_zero e1
         have m2 := mvErr_zero e2
         have r := turn_le (t := u) (x := x) (y := y) (B := 16384) hp.2.1 m2.1 (by omega) (by omega) (by omega) (by omega)
         have c := cT_le hp.1.1 m1.1 hp.2.1 m2.1
         have u1 := t_unit hp.1.1 m1.1
         have u2 := t_unit hp.2.1 m2.1
         first
         | (constructor <;> omega)
         | exact ⟨u2.1, u2.2.1, u2.2.2.1, u2.2.2.2, by omega, by omega, by omega, by omega⟩
         | exact ⟨u1, u2⟩
         | (change inK .i64 (turnX u x y + z); simp only [inK]; omega)
         | (change inK .i64 (turnY u x y + w); simp only [inK]; omega)
         | (refine ⟨c.1, ?_⟩; change cT t u ≤ 255; omega)
         | (have e : thE t x y u z w = lmE (cT t u) (turnX u x y + z) (turnY u x y + w) := by unfold thE; rw [if_pos ⟨e1, e2⟩]
            first | exact e.symm | (unfold thT; rw [e]; rfl) | (unfold thX; rw [e]; rfl) | (unfold thY; rw [e]; rfl)))
      | trace_state)
def poE (t x y a b : Int) : Int := if mvErr t x y = 0 ∧ ptErr a b = 0 then (if ptErr (turnX t a b + 2 * x) (turnY t a b + 2 * y) = 0 then 0 else 3) else 1
def poX (t x y a b : Int) : Int := keep (poE t x y a b) (turnX t a b + 2 * x)
def poY (t x y a b : Int) : Int := keep (poE t x y a b) (turnY t a b + 2 * y)
abbrev nMvPoint : FuncId := 273
def kMvPoint : Kon
 | [.agg [.int .u8 t, .int .i64 x, .int .i64 y], .agg [.int .i64 a, .int .i64 b]] => some (0 ≤ t ∧ t ≤ 255, .tup [.agg [.int .i64 (poX t x y a b), .int .i64 (poY t x y a b)], .int .i64 (poE t x y a b)])
 | _ => none
def FMvPoint : Fam := ⟨Int × Int × Int × Int × Int, fun (t, x, y, a, b) => [.agg [.int .u8 t, .int .i64 x, .int .i64 y], .agg [.int .i64 a, .int .i64 b]], fun (t, x, y, a, b) => 0 ≤ t ∧ t ≤ 255, fun (t, x, y, a, b) => .tup [.agg [.int .i64 (poX t x y a b), .int .i64 (poY t x y a b)], .int .i64 (poE t x y a b)]⟩
set_option maxHeartbeats 4000000 in
set_option maxRecDepth 100000 in
theorem pMvPoint : PS nMvPoint kMvPoint := by
  refine con [(nMvCheck, kMvCheck), (nMatOf, kMatOf), (nPtCheck, kPtCheck)] (by simpa using ⟨pMvCheck, pMatOf, pPtCheck⟩) FMvPoint (fun _ _ => none) kMvPoint ?_ ?_ Go.Proofs.Tryz.func273 (by kernel_rfl) (by kernel_rfl) (by kernel_rfl) ?_
  · intro args pre s h hp
    unfold kMvPoint at h
    split at h
    · rename_i t x y a b; cases h; exact ⟨(t, x, y, a, b), by simp [FMvPoint, le2L, SV.le2, SV.le1, le0L, SV.le0], hp, rfl⟩
    · cases h
  · intro i; show 2 ≤ _; decide
  · rintro ⟨t, x, y, a, b⟩ hp
    replace hp : 0 ≤ t ∧ t ≤ 255 := hp
    repeat' (first | ((with_reducible refine And.intro (Ask.mk ?_) ?_); first | exact trivial | exact fun _ => trivial) | with_reducible refine And.intro ?_ ?_ | ((with_reducible refine Br.litT ?_ ?_); exact (Eq.refl true)) | ((with_reducible refine Br.litF ?_ ?_); exact (Eq.refl false)) | with_reducible refine Br.mk (fun h => ?_) (fun h => ?_) | with_reducible exact True.intro | with_reducible refine rowEq ?_ | with_reducible refine Ub.mk (fun hu => ?_) | ((with_reducible refine Late.mk ?_); exact rfl) | ((fail_if_success (with_reducible first | refine stopA ?_ | refine stopE ?_ | refine stopF ?_ | refine Exists.intro ?_ ?_ | intro _ | refine stopK ?_ | refine stopL ?_)); conv => whnf))
    all_goals (try with_reducible refine Ask.mk ?_)
    all_goals (try first | exact trivial | exact fun _ => trivial)
    all_goals (try dsimp only)
    all_goals (first
      | exact hp
      | (have e : poE t x y a b = 1 := by grind [poE]
         simp [poX, poY, keep, e]; done)
      | (have h1 : (!decide (mvErr t x y = 0) || !decide (ptErr a b = 0)) = false := by assumption
         rw [Bool.or_eq_false_iff] at h1
         have e1 : mvErr t x y = 0 := by simpa using h1.1
         have e2 : ptErr a b = 0 := by simpa using h1.2
         have m1 := mvErr_zero e1
         have m2 := ptErr_zero e2
         have r := turn_le (t := t) (x := a) (y := b) (B := 65536) hp.1 m1.1 (by omega) (by omega) (by omega) (by omega)
         have u1 := t_unit hp.1 m1.1
         first
         | (constructor <;> omega)
         | exact ⟨u1.1, u1.2.1, u1.2.2.1, u1.2.2.2, by omega, by omega, by omega, by omega⟩
         | (change inK .i64 (turnX t a b + 2 * x); simp only [inK]; omega)
         | (change inK .i64 (turnY t a b + 2 * y); simp only [inK]; omega)
         | (simp only [inK]; omega)
         | (have e : poE t x y a b = (if ptErr (turnX t a b + 2 * x) (turnY t a b + 2 * y) = 0 then 0 else 3) := by unfold poE; rw [if_pos ⟨e1, e2⟩]
            first
            | (have q : ptErr (turnX t a b + 2 * x) (turnY t a b + 2 * y) = 0 := by (change (!decide (ptErr (turnX t a b + 2 * x) (turnY t a b + 2 * y) = 0)) = false at h; simpa using h)
               rw [if_pos q] at e
               simp only [poX, poY, keep, e, if_true]; try rfl)
            | (have q : ¬ ptErr (turnX t a b + 2 * x) (turnY t a b + 2 * y) = 0 := by (change (!decide (ptErr (turnX t a b + 2 * x) (turnY t a b + 2 * y) = 0)) = true at h; simpa using h)
               rw [if_neg q] at e
               simp [poX, poY, keep, e]; done)))
      | trace_state)
def shErr (W H : Int) : Int := if 1 ≤ W ∧ 1 ≤ H ∧ W ≤ 256 ∧ H ≤ 256 ∧ W * H ≤ 256 then 0 else 1
theorem shErr_mul {W H : Int} (h1 : 1 ≤ W) (h2 : 1 ≤ H) (h3 : W ≤ 256) (h4 : H ≤ 256) : 1 ≤ W * H ∧ W * H ≤ 65536 := by
 have a : 1 * 1 ≤ W * H := Int.mul_le_mul h1 h2 (by omega) (by omega)
 have b : W * H ≤ 256 * 256 := Int.mul_le_mul h3 h4 (by omega) (by omega)
 omega
abbrev nSheetsCheck : FuncId := 11
def kSheetsCheck : Kon
 | [.agg [.int .i64 W, .int .i64 H]] => some (True, .int .i64 (shErr W H))
 | _ => none
def FSheetsCheck : Fam := ⟨Int × Int, fun (W, H) => [.agg [.int .i64 W, .int .i64 H]], fun _ => True, fun (W, H) => .int .i64 (shErr W H)⟩
set_option maxRecDepth 100000 in
theorem pSheetsCheck : PS 11 kSheetsCheck := by
 refine con [] (by simp) FSheetsCheck (fun _ _ => none) kSheetsCheck ?_ ?_ Go.Proofs.Tryz.func11 (by kernel_rfl) (by kernel_rfl) (by kernel_rfl) ?_
 ·
  intro args pre s h hp
  unfold kSheetsCheck at h
  split at h
  ·
   rename_i W H; cases h; exact ⟨(W, H), by simp [FSheetsCheck, le2L, SV.le2, SV.le1, le0L, SV.le0], trivial, rfl⟩
  ·
   cases h
 ·
  intro i; show 1 ≤ _; decide
 ·
  rintro ⟨W, H⟩ -
  repeat' (first | ((with_reducible refine And.intro (Ask.mk ?_) ?_); first | exact trivial | exact fun _ => trivial) | with_reducible refine And.intro ?_ ?_ | ((with_reducible refine Br.litT ?_ ?_); exact (Eq.refl true)) | ((with_reducible refine Br.litF ?_ ?_); exact (Eq.refl false)) | with_reducible refine Br.mk (fun h => ?_) (fun h => ?_) | with_reducible exact True.intro | with_reducible refine rowEq ?_ | with_reducible refine Ub.mk (fun hu => ?_) | ((with_reducible refine Late.mk ?_); exact rfl) | ((fail_if_success (with_reducible first | refine stopA ?_ | refine stopE ?_ | refine stopF ?_ | refine Exists.intro ?_ ?_ | intro _ | refine stopK ?_ | refine stopL ?_)); conv => whnf))
  all_goals (try with_reducible refine Ask.mk ?_)
  all_goals (try first | exact trivial | exact fun _ => trivial)
  all_goals (try dsimp only)
  ·
   intro h
   simp at h
   have := shErr_mul (W := W) (H := H) (by omega) (by omega) (by omega) (by omega)
   simp only [inK]; omega
  ·
   simp [shErr] at h ⊢; omega
  ·
   simp [shErr] at h ⊢; omega
def hasB (W H i : Int) : Bool := decide (0 ≤ i) && decide (i < 4 * W * H)
def kHas : Kon
 | [.agg [.int .i64 W, .int .i64 H], .int .i64 i] => some (shErr W H = 0, .bool (hasB W H i))
 | _ => none
def FHas : Fam := ⟨Int × Int × Int, fun (W, H, i) => [.agg [.int .i64 W, .int .i64 H], .int .i64 i], fun (W, H, i) => shErr W H = 0, fun (W, H, i) => .bool (hasB W H i)⟩
theorem shErr_zero {W H : Int} (h : shErr W H = 0) : 1 ≤ W ∧ 1 ≤ H ∧ W ≤ 256 ∧ H ≤ 256 ∧ 1 ≤ W * H ∧ W * H ≤ 256 ∧ 4 * W * H = 4 * (W * H) := by
 unfold shErr at h
 split at h
 ·
  rename_i hc
  obtain ⟨h1, h2, h3, h4, h5⟩ := hc
  have := shErr_mul h1 h2 h3 h4
  exact ⟨h1, h2, h3, h4, this.1, h5, Int.mul_assoc _ _ _⟩
 ·
  cases h
set_option maxRecDepth 100000 in
theorem pHas : PS 215 kHas := by
 refine con [] (by simp) FHas (fun _ _ => none) kHas ?_ ?_ Go.Proofs.Tryz.func215 (by kernel_rfl) (by kernel_rfl) (by kernel_rfl) ?_
 ·
  intro args pre s h hp
  unfold kHas at h
  split at h
  ·
   rename_i W H i; cases h; exact ⟨(W, H, i), by simp [FHas, le2L, SV.le2, SV.le1, le0L, SV.le0], hp, rfl⟩
  ·
   cases h
 ·
  intro i; show 2 ≤ _; decide
 ·
  rintro ⟨W, H, i⟩ hp
  obtain ⟨h1, h2, h3, h4, h5, h6, h7⟩ := shErr_zero hp
  repeat' (first | ((with_reducible refine And.intro (Ask.mk ?_) ?_); first | exact trivial | exact fun _ => trivial) | with_reducible refine And.intro ?_ ?_ | ((with_reducible refine Br.litT ?_ ?_); exact (Eq.refl true)) | ((with_reducible refine Br.litF ?_ ?_); exact (Eq.refl false)) | with_reducible refine Br.mk (fun h => ?_) (fun h => ?_) | with_reducible exact True.intro | with_reducible refine rowEq ?_ | with_reducible refine Ub.mk (fun hu => ?_) | ((with_reducible refine Late.mk ?_); exact rfl) | ((fail_if_success (with_reducible first | refine stopA ?_ | refine stopE ?_ | refine stopF ?_ | refine Exists.intro ?_ ?_ | intro _ | refine stopK ?_ | refine stopL ?_)); conv => whnf))
  all_goals (try with_reducible refine Ask.mk ?_)
  all_goals (try first | exact trivial | exact fun _ => trivial)
  all_goals (try dsimp only)
  ·
   intro _; simp only [inK]; omega
  ·
   intro _; simp only [inK]; omega
  ·
   rfl
def kCell : Kon
 | [.agg [.int .i64 W, .int .i64 H], .int .i64 i] => some (1 ≤ W ∧ W ≤ 256 ∧ 0 ≤ i ∧ i ≤ 1024, .agg [.int .i64 (i / 4 % W), .int .i64 (i / 4 / W), .int .u8 (i % 4)])
 | _ => none
def FCell : Fam := ⟨Int × Int × Int, fun (W, H, i) => [.agg [.int .i64 W, .int .i64 H], .int .i64 i], fun (W, H, i) => 1 ≤ W ∧ W ≤ 256 ∧ 0 ≤ i ∧ i ≤ 1024, fun (W, H, i) => .agg [.int .i64 (i / 4 % W), .int .i64 (i / 4 / W), .int .u8 (i % 4)]⟩
set_option maxRecDepth 100000 in
theorem pCell : PS 216 kCell := by
 refine con [] (by simp) FCell (fun _ _ => none) kCell ?_ ?_ Go.Proofs.Tryz.func216 (by kernel_rfl) (by kernel_rfl) (by kernel_rfl) ?_
 ·
  intro args pre s h hp
  unfold kCell at h
  split at h
  ·
   rename_i W H i; cases h; exact ⟨(W, H, i), by simp [FCell, le2L, SV.le2, SV.le1, le0L, SV.le0], hp, rfl⟩
  ·
   cases h
 ·
  intro i; show 2 ≤ _; decide
 ·
  rintro ⟨W, H, i⟩ ⟨h1, h2, h3, h4⟩
  have a1 : i.tdiv 4 = i / 4 := Int.tdiv_eq_ediv_of_nonneg h3
  have a2 : i.tmod 4 = i % 4 := Int.tmod_eq_emod_of_nonneg h3
  have a3 : (i / 4).tdiv W = i / 4 / W := Int.tdiv_eq_ediv_of_nonneg (by omega)
  have a4 : (i / 4).tmod W = i / 4 % W := Int.tmod_eq_emod_of_nonneg (by omega)
  have a5 : i / 4 / W ≤ i / 4 := Int.ediv_le_self _ (by omega)
  have a6 : 0 ≤ i / 4 / W := Int.ediv_nonneg (by omega) (by omega)
  repeat' (first | ((with_reducible refine And.intro (Ask.mk ?_) ?_); first | exact trivial | exact fun _ => trivial) | with_reducible refine And.intro ?_ ?_ | ((with_reducible refine Br.litT ?_ ?_); exact (Eq.refl true)) | ((with_reducible refine Br.litF ?_ ?_); exact (Eq.refl false)) | with_reducible refine Br.mk (fun h => ?_) (fun h => ?_) | with_reducible exact True.intro | with_reducible refine rowEq ?_ | with_reducible refine Ub.mk (fun hu => ?_) | ((with_reducible refine Late.mk ?_); exact rfl) | ((fail_if_success (with_reducible first | refine stopA ?_ | refine stopE ?_ | refine stopF ?_ | refine Exists.intro ?_ ?_ | intro _ | refine stopK ?_ | refine stopL ?_)); conv => whnf))
  all_goals (try with_reducible refine Ask.mk ?_)
  all_goals (try first | exact trivial | exact fun _ => trivial)
  all_goals (try dsimp only)
  all_goals (try simp only [a1, a2, a3, a4])
  all_goals (try simp only [inK])
  all_goals omega
def clErr (X Y Q : Int) : Int := if -4096 ≤ X ∧ X ≤ 4096 ∧ -4096 ≤ Y ∧ Y ≤ 4096 ∧ Q ≤ 3 then 0 else 1
abbrev nCellsCheck : FuncId := 159
def kCellsCheck : Kon
 | [.agg [.int .i64 X, .int .i64 Y, .int .u8 Q]] => some (True, .int .i64 (clErr X Y Q))
 | _ => none
def FCellsCheck : Fam := ⟨Int × Int × Int, fun (X, Y, Q) => [.agg [.int .i64 X, .int .i64 Y, .int .u8 Q]], fun _ => True, fun (X, Y, Q) => .int .i64 (clErr X Y Q)⟩
set_option maxRecDepth 100000 in
theorem pCellsCheck : PS 159 kCellsCheck := by
 refine con [] (by simp) FCellsCheck (fun _ _ => none) kCellsCheck ?_ ?_ Go.Proofs.Tryz.func159 (by kernel_rfl) (by kernel_rfl) (by kernel_rfl) ?_
 ·
  intro args pre s h hp
  unfold kCellsCheck at h
  split at h
  ·
   rename_i X Y Q; cases h; exact ⟨(X, Y, Q), by simp [FCellsCheck, le2L, SV.le2, SV.le1, le0L, SV.le0], trivial, rfl⟩
  ·
   cases h
 ·
  intro i; show 1 ≤ _; decide
 ·
  rintro ⟨X, Y, Q⟩ -
  repeat' (first | ((with_reducible refine And.intro (Ask.mk ?_) ?_); first | exact trivial | exact fun _ => trivial) | with_reducible refine And.intro ?_ ?_ | ((with_reducible refine Br.litT ?_ ?_); exact (Eq.refl true)) | ((with_reducible refine Br.litF ?_ ?_); exact (Eq.refl false)) | with_reducible refine Br.mk (fun h => ?_) (fun h => ?_) | with_reducible exact True.intro | with_reducible refine rowEq ?_ | with_reducible refine Ub.mk (fun hu => ?_) | ((with_reducible refine Late.mk ?_); exact rfl) | ((fail_if_success (with_reducible first | refine stopA ?_ | refine stopE ?_ | refine stopF ?_ | refine Exists.intro ?_ ?_ | intro _ | refine stopK ?_ | refine stopL ?_)); conv => whnf))
  all_goals (try with_reducible refine Ask.mk ?_)
  all_goals (try first | exact trivial | exact fun _ => trivial)
  all_goals (try dsimp only)
  ·
   simp [clErr] at h ⊢; omega
  ·
   simp [clErr] at h ⊢; omega
theorem clErr_zero {X Y Q : Int} (h : clErr X Y Q = 0) : -4096 ≤ X ∧ X ≤ 4096 ∧ -4096 ≤ Y ∧ Y ≤ 4096 ∧ Q ≤ 3 := by
 unfold clErr at h
 split at h
 ·
  assumption
 ·
  cases h
def ceErr (W H i : Int) : Int := if shErr W H = 0 then if hasB W H i = true then 0 else 7 else 1
def ceX (W H i : Int) : Int := if ceErr W H i = 0 then i / 4 % W else 0
def ceY (W H i : Int) : Int := if ceErr W H i = 0 then i / 4 / W else 0
def ceQ (W H i : Int) : Int := if ceErr W H i = 0 then i % 4 else 0
theorem shErr_or (W H : Int) : shErr W H = 0 ∨ shErr W H = 1 := by unfold shErr; split <;> simp
def kSheetsCell : Kon
 | [.agg [.int .i64 W, .int .i64 H], .int .i64 i] => some (True, .tup [.agg [.int .i64 (ceX W H i), .int .i64 (ceY W H i), .int .u8 (ceQ W H i)], .int .i64 (ceErr W H i)])
 | _ => none
def FSheetsCell : Fam := ⟨Int × Int × Int, fun (W, H, i) => [.agg [.int .i64 W, .int .i64 H], .int .i64 i], fun _ => True, fun (W, H, i) => .tup [.agg [.int .i64 (ceX W H i), .int .i64 (ceY W H i), .int .u8 (ceQ W H i)], .int .i64 (ceErr W H i)]⟩
set_option maxRecDepth 100000 in
theorem pSheetsCell : PS 166 kSheetsCell := by
 refine con [(11, kSheetsCheck), (215, kHas), (216, kCell)] (by simpa using ⟨pSheetsCheck, pHas, pCell⟩) FSheetsCell (fun _ _ => none) kSheetsCell ?_ ?_ Go.Proofs.Tryz.func166 (by kernel_rfl) (by kernel_rfl) (by kernel_rfl) ?_
 ·
  intro args pre s h hp
  unfold kSheetsCell at h
  split at h
  ·
   rename_i W H i; cases h; exact ⟨(W, H, i), by simp [FSheetsCell, le2L, SV.le2, SV.le1, le0L, SV.le0], trivial, rfl⟩
  ·
   cases h
 ·
  intro i; show 2 ≤ _; decide
 ·
  rintro ⟨W, H, i⟩ -
  repeat' (first | ((with_reducible refine And.intro (Ask.mk ?_) ?_); first | exact trivial | exact fun _ => trivial) | with_reducible refine And.intro ?_ ?_ | ((with_reducible refine Br.litT ?_ ?_); exact (Eq.refl true)) | ((with_reducible refine Br.litF ?_ ?_); exact (Eq.refl false)) | with_reducible refine Br.mk (fun h => ?_) (fun h => ?_) | with_reducible exact True.intro | with_reducible refine rowEq ?_ | with_reducible refine Ub.mk (fun hu => ?_) | ((with_reducible refine Late.mk ?_); exact rfl) | ((fail_if_success (with_reducible first | refine stopA ?_ | refine stopE ?_ | refine stopF ?_ | refine Exists.intro ?_ ?_ | intro _ | refine stopK ?_ | refine stopL ?_)); conv => whnf))
  all_goals (try with_reducible refine Ask.mk ?_)
  all_goals (try first | exact trivial | exact fun _ => trivial)
  all_goals (try dsimp only)
  all_goals (try simp only [ceX, ceY, ceQ, ceErr])
  all_goals (try simp at h)
  all_goals (first | (simp [h]; done) | skip)
  all_goals (try (rename_i h0; simp at h0; simp [h, h0]; done))
  ·
   rw [if_neg h]; exact (shErr_or W H).resolve_left h
  ·
   rename_i h0; simp at h0
   obtain ⟨h1, h2, h3, h4, h5, h6, h7⟩ := shErr_zero h0
   simp [hasB] at h
   omega
def ndx (Q e : Int) : Int := [tb [0, 1, 0, -1] Q.toNat, tb [0, 0, 0, 0] Q.toNat, tb [0, 0, 0, 0] Q.toNat].getD e.toNat 0
def ndy (Q e : Int) : Int := [tb [-1, 0, 1, 0] Q.toNat, tb [0, 0, 0, 0] Q.toNat, tb [0, 0, 0, 0] Q.toNat].getD e.toNat 0
def ndq (Q e : Int) : Int := [tb [2, 3, 0, 1] Q.toNat, tb [1, 0, 3, 2] Q.toNat, tb [3, 2, 1, 0] Q.toNat].getD e.toNat 0
def nbErr (X Y Q e : Int) : Int := if clErr X Y Q = 0 ∧ e ≤ 2 then (if clErr (ndx Q e + X) (ndy Q e + Y) (ndq Q e) = 0 then 0 else 3) else 1
def nbX (X Y Q e : Int) : Int := if nbErr X Y Q e = 0 then ndx Q e + X else 0
def nbY (X Y Q e : Int) : Int := if nbErr X Y Q e = 0 then ndy Q e + Y else 0
def nbQ (X Y Q e : Int) : Int := if nbErr X Y Q e = 0 then ndq Q e else 0
theorem nd_le {Q e : Int} (h1 : 0 ≤ Q) (h2 : Q ≤ 3) (h3 : 0 ≤ e) (h4 : e ≤ 2) : -1 ≤ ndx Q e ∧ ndx Q e ≤ 1 ∧ -1 ≤ ndy Q e ∧ ndy Q e ≤ 1 ∧ 0 ≤ ndq Q e ∧ ndq Q e ≤ 3 := by
 have : ∀ q : Nat, q < 4 → ∀ e : Nat, e < 3 → -1 ≤ ndx q e ∧ ndx q e ≤ 1 ∧ -1 ≤ ndy q e ∧ ndy q e ≤ 1 ∧ 0 ≤ ndq q e ∧ ndq q e ≤ 3 := by decide
 have := this Q.toNat (by omega) e.toNat (by omega)
 rwa [Int.toNat_of_nonneg h1, Int.toNat_of_nonneg h3] at this
theorem clErr_or (X Y Q : Int) : clErr X Y Q = 0 ∨ clErr X Y Q = 1 := by unfold clErr; split <;> simp
abbrev nCellsNeighbour : FuncId := 167
def kCellsNeighbour : Kon
 | [.agg [.int .i64 X, .int .i64 Y, .int .u8 Q], .int .u8 e] => some (0 ≤ Q ∧ 0 ≤ e, .tup [.agg [.int .i64 (nbX X Y Q e), .int .i64 (nbY X Y Q e), .int .u8 (nbQ X Y Q e)], .int .i64 (nbErr X Y Q e)])
 | _ => none
def FCellsNeighbour : Fam := ⟨Int × Int × Int × Int, fun (X, Y, Q, e) => [.agg [.int .i64 X, .int .i64 Y, .int .u8 Q], .int .u8 e], fun (X, Y, Q, e) => 0 ≤ Q ∧ 0 ≤ e,
 fun (X, Y, Q, e) => .tup [.agg [.int .i64 (nbX X Y Q e), .int .i64 (nbY X Y Q e), .int .u8 (nbQ X Y Q e)], .int .i64 (nbErr X Y Q e)]⟩
set_option maxRecDepth 100000 in
theorem pCellsNeighbour : PS 167 kCellsNeighbour := by
 refine con [(159, kCellsCheck)] (by simpa using pCellsCheck) FCellsNeighbour (fun _ _ => none) kCellsNeighbour ?_ ?_ Go.Proofs.Tryz.func167 (by kernel_rfl) (by kernel_rfl) (by kernel_rfl) ?_
 ·
  intro args pre s h hp
  unfold kCellsNeighbour at h
  split at h
  ·
   rename_i X Y Q e; cases h; exact ⟨(X, Y, Q, e), by simp [FCellsNeighbour, le2L, SV.le2, SV.le1, le0L, SV.le0], hp, rfl⟩
  ·
   cases h
 ·
  intro i; show 2 ≤ _; decide
 ·
  rintro ⟨X, Y, Q, e⟩ ⟨hQ, he⟩
  repeat' (first | ((with_reducible refine And.intro (Ask.mk ?_) ?_); first | exact trivial | exact fun _ => trivial) | with_reducible refine And.intro ?_ ?_ | ((with_reducible refine Br.litT ?_ ?_); exact (Eq.refl true)) | ((with_reducible refine Br.litF ?_ ?_); exact (Eq.refl false)) | with_reducible refine Br.mk (fun h => ?_) (fun h => ?_) | with_reducible exact True.intro | with_reducible refine rowEq ?_ | with_reducible refine Ub.mk (fun hu => ?_) | ((with_reducible refine Late.mk ?_); exact rfl) | ((fail_if_success (with_reducible first | refine stopA ?_ | refine stopE ?_ | refine stopF ?_ | refine Exists.intro ?_ ?_ | intro _ | refine stopK ?_ | refine stopL ?_)); conv => whnf))
  all_goals (try with_reducible refine Ask.mk ?_)
  all_goals (try first | exact trivial | exact fun _ => trivial)
  all_goals (try dsimp only)
  all_goals (try simp only [nbX, nbY, nbQ])
  all_goals (try (have e0 : nbErr X Y Q e = 1 := by simp [nbErr]; simp at h; omega); simp [e0]; done)
  ·
   simp at h; have := clErr_zero h.1; omega
  ·
   simp at h; omega
  all_goals (try (change inK .i64 (ndx Q e + X); simp at h; have := clErr_zero h.1; have n := nd_le hQ (by omega) he (by omega); simp only [inK]; omega))
  all_goals (try (change inK .i64 (ndy Q e + Y); simp at h; have := clErr_zero h.1; have n := nd_le hQ (by omega) he (by omega); simp only [inK]; omega))
  all_goals (rename_i h0; simp at h0)
  all_goals (change (!decide (clErr (ndx Q e + X) (ndy Q e + Y) (ndq Q e) = 0)) = _ at h; simp at h)
  all_goals (try (have e0 : nbErr X Y Q e = 3 := by simp [nbErr, h0, h]); simp [e0]; done)
  all_goals (have e0 : nbErr X Y Q e = 0 := by simp [nbErr, h0, h])
  all_goals (simp only [e0, if_true])
  ·
   rfl
  ·
   rfl
  ·
   rfl
def idErr (W H X Y Q : Int) : Int := if shErr W H = 0 then (if clErr X Y Q = 0 ∧ 0 ≤ X ∧ X < W ∧ 0 ≤ Y ∧ Y < H then 0 else 7) else 1
def idVal (W H X Y Q : Int) : Int := if idErr W H X Y Q = 0 then 4 * (Y * W + X) + Q else 0
def kId : Kon
 | [.agg [.int .i64 W, .int .i64 H], .agg [.int .i64 X, .int .i64 Y, .int .u8 Q]] => some (0 ≤ Q, .tup [.int .i64 (idVal W H X Y Q), .int .i64 (idErr W H X Y Q)])
 | _ => none
def FId : Fam := ⟨Int × Int × Int × Int × Int, fun (W, H, X, Y, Q) => [.agg [.int .i64 W, .int .i64 H], .agg [.int .i64 X, .int .i64 Y, .int .u8 Q]], fun (W, H, X, Y, Q) => 0 ≤ Q,
 fun (W, H, X, Y, Q) => .tup [.int .i64 (idVal W H X Y Q), .int .i64 (idErr W H X Y Q)]⟩
theorem id_le {W H X Y : Int} (h : shErr W H = 0) (h1 : 0 ≤ X) (h2 : X < W) (h3 : 0 ≤ Y) (h4 : Y < H) : 0 ≤ Y * W ∧ Y * W + X < W * H ∧ W * H ≤ 256 := by
 obtain ⟨a1, a2, a3, a4, a5, a6, a7⟩ := shErr_zero h
 have b : Y * W ≤ (H - 1) * W := Int.mul_le_mul_of_nonneg_right (by omega) (by omega)
 have c : (H - 1) * W = W * H - W := by rw [Int.sub_mul, Int.one_mul, Int.mul_comm]
 have d : 0 ≤ Y * W := Int.mul_nonneg h3 (by omega)
 omega
set_option maxRecDepth 100000 in
theorem pId : PS 168 kId := by
 refine con [(11, kSheetsCheck), (159, kCellsCheck)] (by simpa using ⟨pSheetsCheck, pCellsCheck⟩) FId (fun _ _ => none) kId ?_ ?_ Go.Proofs.Tryz.func168 (by kernel_rfl) (by kernel_rfl) (by kernel_rfl) ?_
 ·
  intro args pre s h hp
  unfold kId at h
  split at h
  ·
   rename_i W H X Y Q; cases h; exact ⟨(W, H, X, Y, Q), by simp [FId, le2L, SV.le2, SV.le1, le0L, SV.le0], hp, rfl⟩
  ·
   cases h
 ·
  intro i; show 2 ≤ _; decide
 ·
  rintro ⟨W, H, X, Y, Q⟩ hQ
  replace hQ : 0 ≤ Q := hQ
  repeat' (first | ((with_reducible refine And.intro (Ask.mk ?_) ?_); first | exact trivial | exact fun _ => trivial) | with_reducible refine And.intro ?_ ?_ | ((with_reducible refine Br.litT ?_ ?_); exact (Eq.refl true)) | ((with_reducible refine Br.litF ?_ ?_); exact (Eq.refl false)) | with_reducible refine Br.mk (fun h => ?_) (fun h => ?_) | with_reducible exact True.intro | with_reducible refine rowEq ?_ | with_reducible refine Ub.mk (fun hu => ?_) | ((with_reducible refine Late.mk ?_); exact rfl) | ((fail_if_success (with_reducible first | refine stopA ?_ | refine stopE ?_ | refine stopF ?_ | refine Exists.intro ?_ ?_ | intro _ | refine stopK ?_ | refine stopL ?_)); conv => whnf))
  all_goals (try with_reducible refine Ask.mk ?_)
  all_goals (try first | exact trivial | exact fun _ => trivial)
  all_goals (try dsimp only)
  all_goals (try (have e0 : idErr W H X Y Q = 1 := by (simp at h; simp [idErr, h])); rw [idVal, e0]; rfl)
  ·
   simp at h; rw [idErr, if_neg h]; exact (shErr_or W H).resolve_left h
  all_goals (try ((have e0 : idErr W H X Y Q = 7 := by (rename_i h0; simp at h0; simp at h; rw [idErr, if_pos h0, if_neg]; omega)); first | exact e0.symm | (rw [idVal, e0]; rfl)))
  all_goals (rename_i h0; simp at h0; simp at h)
  all_goals (have b := id_le (X := X) (Y := Y) h0 (by omega) (by omega) (by omega) (by omega); have c := clErr_zero h.1.1.1.1)
  all_goals (try (simp only [inK]; omega))
  all_goals (have e0 : idErr W H X Y Q = 0 := by rw [idErr, if_pos h0, if_pos]; omega)
  ·
   rw [idVal, e0]; rfl
  ·
   exact e0.symm
def neErr (W H i e : Int) : Int := if ceErr W H i = 0 then (if nbErr (ceX W H i) (ceY W H i) (ceQ W H i) e = 0 then idErr W H (nbX (ceX W H i) (ceY W H i) (ceQ W H i) e) (nbY (ceX W H i) (ceY W H i) (ceQ W H i) e) (nbQ (ceX W H i) (ceY W H i) (ceQ W H i) e) else 1) else ceErr W H i
def neVal (W H i e : Int) : Int := if ceErr W H i = 0 then (if nbErr (ceX W H i) (ceY W H i) (ceQ W H i) e = 0 then idVal W H (nbX (ceX W H i) (ceY W H i) (ceQ W H i) e) (nbY (ceX W H i) (ceY W H i) (ceQ W H i) e) (nbQ (ceX W H i) (ceY W H i) (ceQ W H i) e) else 0) else 0
theorem ceQ_le (W H i : Int) : 0 ≤ ceQ W H i ∧ ceQ W H i ≤ 3 := by
 unfold ceQ; split <;> omega
theorem nbQ_le {X Y Q e : Int} (h1 : 0 ≤ Q) (h3 : 0 ≤ e) : 0 ≤ nbQ X Y Q e ∧ nbQ X Y Q e ≤ 3 := by
 unfold nbQ
 split
 ·
  rename_i h
  unfold nbErr at h
  split at h
  ·
   rename_i hc
   have := clErr_zero hc.1
   have := nd_le h1 (by omega) h3 hc.2
   omega
  ·
   cases h
 ·
  omega
def kNeighbour : Kon
 | [.agg [.int .i64 W, .int .i64 H], .int .i64 i, .int .u8 e] => some (0 ≤ e, .tup [.int .i64 (neVal W H i e), .int .i64 (neErr W H i e)])
 | _ => none
def FNeighbour : Fam := ⟨Int × Int × Int × Int, fun (W, H, i, e) => [.agg [.int .i64 W, .int .i64 H], .int .i64 i, .int .u8 e], fun (W, H, i, e) => 0 ≤ e,
 fun (W, H, i, e) => .tup [.int .i64 (neVal W H i e), .int .i64 (neErr W H i e)]⟩
set_option maxRecDepth 100000 in
theorem pNeighbour : PS 87 kNeighbour := by
 refine con [(166, kSheetsCell), (167, kCellsNeighbour), (168, kId)] (by simpa using ⟨pSheetsCell, pCellsNeighbour, pId⟩) FNeighbour (fun _ _ => none) kNeighbour ?_ ?_ Go.Proofs.Tryz.func87 (by kernel_rfl) (by kernel_rfl) (by kernel_rfl) ?_
 ·
  intro args pre s h hp
  unfold kNeighbour at h
  split at h
  ·
   rename_i W H i e; cases h; exact ⟨(W, H, i, e), by simp [FNeighbour, le2L, SV.le2, SV.le1, le0L, SV.le0], hp, rfl⟩
  ·
   cases h
 ·
  intro i; show 3 ≤ _; decide
 ·
  rintro ⟨W, H, i, e⟩ he
  replace he : 0 ≤ e := he
  repeat' (first | ((with_reducible refine And.intro (Ask.mk ?_) ?_); first | exact trivial | exact fun _ => trivial) | with_reducible refine And.intro ?_ ?_ | ((with_reducible refine Br.litT ?_ ?_); exact (Eq.refl true)) | ((with_reducible refine Br.litF ?_ ?_); exact (Eq.refl false)) | with_reducible refine Br.mk (fun h => ?_) (fun h => ?_) | with_reducible exact True.intro | with_reducible refine rowEq ?_ | with_reducible refine Ub.mk (fun hu => ?_) | ((with_reducible refine Late.mk ?_); exact rfl) | ((fail_if_success (with_reducible first | refine stopA ?_ | refine stopE ?_ | refine stopF ?_ | refine Exists.intro ?_ ?_ | intro _ | refine stopK ?_ | refine stopL ?_)); conv => whnf))
  all_goals (try with_reducible refine Ask.mk ?_)
  all_goals (try first | exact trivial | exact fun _ => trivial)
  all_goals (try dsimp only)
  all_goals (try exact he)
  all_goals (try exact (ceQ_le W H i).1)
  all_goals (try exact ⟨(ceQ_le W H i).1, he⟩)
  all_goals (try exact (nbQ_le (ceQ_le W H i).1 he).1)
  all_goals (simp at h; (try rename_i h0; simp at h0); simp [neErr, neVal, *])
abbrev nMiddle : FuncId := 272
def kMiddle : Kon
 | [.agg [.int .i64 X, .int .i64 Y, .int .u8 Q]] => some (-5000 ≤ X ∧ X ≤ 5000 ∧ -5000 ≤ Y ∧ Y ≤ 5000, .agg [.int .i64 (2 * X + 1), .int .i64 (2 * Y + 1)])
 | _ => none
def FMiddle : Fam := ⟨Int × Int × Int, fun (X, Y, Q) => [.agg [.int .i64 X, .int .i64 Y, .int .u8 Q]], fun (X, Y, Q) => -5000 ≤ X ∧ X ≤ 5000 ∧ -5000 ≤ Y ∧ Y ≤ 5000, fun (X, Y, Q) => .agg [.int .i64 (2 * X + 1), .int .i64 (2 * Y + 1)]⟩
set_option maxHeartbeats 4000000 in
set_option maxRecDepth 100000 in
theorem pMiddle : PS nMiddle kMiddle := by
 refine con [] (by simp) FMiddle (fun _ _ => none) kMiddle ?_ ?_ Go.Proofs.Tryz.func272 (by kernel_rfl) (by kernel_rfl) (by kernel_rfl) ?_
 ·
  intro args pre s h hp
  unfold kMiddle at h
  split at h
  ·
   rename_i X Y Q; cases h; exact ⟨(X, Y, Q), by simp [FMiddle, le2L, SV.le2, SV.le1, le0L, SV.le0], hp, rfl⟩
  ·
   cases h
 ·
  intro i; show 1 ≤ _; decide
 ·
  rintro ⟨X, Y, Q⟩ hp
  replace hp : -5000 ≤ X ∧ X ≤ 5000 ∧ -5000 ≤ Y ∧ Y ≤ 5000 := hp
  repeat' (first | ((with_reducible refine And.intro (Ask.mk ?_) ?_); first | exact trivial | exact fun _ => trivial) | with_reducible refine And.intro ?_ ?_ | ((with_reducible refine Br.litT ?_ ?_); exact (Eq.refl true)) | ((with_reducible refine Br.litF ?_ ?_); exact (Eq.refl false)) | with_reducible refine Br.mk (fun h => ?_) (fun h => ?_) | with_reducible exact True.intro | with_reducible refine rowEq ?_ | with_reducible refine Ub.mk (fun hu => ?_) | ((with_reducible refine Late.mk ?_); exact rfl) | ((fail_if_success (with_reducible first | refine stopA ?_ | refine stopE ?_ | refine stopF ?_ | refine Exists.intro ?_ ?_ | intro _ | refine stopK ?_ | refine stopL ?_)); conv => whnf))
  all_goals (try with_reducible refine Ask.mk ?_)
  all_goals (try first | exact trivial | exact fun _ => trivial)
  all_goals (try dsimp only)
  all_goals (first | rfl | (simp only [inK]; omega))
def o1 (Q : Int) : Int := tb [0, 2, 2, 0] Q.toNat
def o2 (Q : Int) : Int := tb [2, 2, 0, 0] Q.toNat
def o3 (Q : Int) : Int := tb [0, 0, 2, 2] Q.toNat
theorem o_le {Q : Int} (h0 : 0 ≤ Q) (h1 : Q ≤ 3) : (0 ≤ o1 Q ∧ o1 Q ≤ 2) ∧ (0 ≤ o2 Q ∧ o2 Q ≤ 2) ∧ 0 ≤ o3 Q ∧ o3 Q ≤ 2 := by
 have : ∀ q : Nat, q < 4 → (0 ≤ o1 q ∧ o1 q ≤ 2) ∧ (0 ≤ o2 q ∧ o2 q ≤ 2) ∧ 0 ≤ o3 q ∧ o3 q ≤ 2 := by decide
 have := this Q.toNat (by omega)
 rwa [Int.toNat_of_nonneg h0] at this
def ICorn : Nat → Option Inv
 | 6 => some (.unroll 4)
 | _ => none
abbrev nCorners : FuncId := 191
def kCorners : Kon
 | [.agg [.int .i64 X, .int .i64 Y, .int .u8 Q]] => some (0 ≤ Q, .tup [.agg [.int .i64 (keep (clErr X Y Q) (1 + 2 * X)), .int .i64 (keep (clErr X Y Q) (1 + 2 * Y)), .int .i64 (keep (clErr X Y Q) (o1 Q + 2 * X)), .int .i64 (keep (clErr X Y Q) (o1 Q + 2 * Y)), .int .i64 (keep (clErr X Y Q) (o2 Q + 2 * X)), .int .i64 (keep (clErr X Y Q) (o3 Q + 2 * Y))], .int .i64 (clErr X Y Q)])
 | _ => none
def FCorners : Fam := ⟨Int × Int × Int, fun (X, Y, Q) => [.agg [.int .i64 X, .int .i64 Y, .int .u8 Q]], fun (X, Y, Q) => 0 ≤ Q, fun (X, Y, Q) => .tup [.agg [.int .i64 (keep (clErr X Y Q) (1 + 2 * X)), .int .i64 (keep (clErr X Y Q) (1 + 2 * Y)), .int .i64 (keep (clErr X Y Q) (o1 Q + 2 * X)), .int .i64 (keep (clErr X Y Q) (o1 Q + 2 * Y)), .int .i64 (keep (clErr X Y Q) (o2 Q + 2 * X)), .int .i64 (keep (clErr X Y Q) (o3 Q + 2 * Y))], .int .i64 (clErr X Y Q)]⟩
set_option maxHeartbeats 4000000 in
set_option maxRecDepth 100000 in
theorem pCorners : PS nCorners kCorners := by
 refine con [(nCellsCheck, kCellsCheck)] (by simpa using pCellsCheck) FCorners (fun _ => ICorn) kCorners ?_ ?_ Go.Proofs.Tryz.func191 (by kernel_rfl) (by kernel_rfl) (by kernel_rfl) ?_
 ·
  intro args pre s h hp
  unfold kCorners at h
  split at h
  ·
   rename_i X Y Q; cases h; exact ⟨(X, Y, Q), by simp [FCorners, le2L, SV.le2, SV.le1, le0L, SV.le0], hp, rfl⟩
  ·
   cases h
 ·
  intro i; show 1 ≤ _; decide
 ·
  rintro ⟨X, Y, Q⟩ hp
  replace hp : 0 ≤ Q := hp
  repeat' (first | ((with_reducible refine And.intro (Ask.mk ?_) ?_); first | exact trivial | exact fun _ => trivial) | with_reducible refine And.intro ?_ ?_ | ((with_reducible refine Br.litT ?_ ?_); exact (Eq.refl true)) | ((with_reducible refine Br.litF ?_ ?_); exact (Eq.refl false)) | with_reducible refine Br.mk (fun h => ?_) (fun h => ?_) | with_reducible exact True.intro | with_reducible refine rowEq ?_ | with_reducible refine Ub.mk (fun hu => ?_) | ((with_reducible refine Late.mk ?_); exact rfl) | ((fail_if_success (with_reducible first | refine stopA ?_ | refine stopE ?_ | refine stopF ?_ | refine Exists.intro ?_ ?_ | intro _ | refine stopK ?_ | refine stopL ?_)); conv => whnf))
  all_goals (try with_reducible refine Ask.mk ?_)
  all_goals (try first | exact trivial | exact fun _ => trivial)
  all_goals (try dsimp only)
  all_goals (have c0 := clErr_or X Y Q; have c1 := @clErr_zero X Y Q; have o := @o_le Q hp)
  all_goals (try simp only [inK])
  all_goals (first
   | (intros; decide)
   | (change keep _ _ = keep _ _; rfl)
   | (change _ = keep (clErr X Y Q) (o1 Q + 2 * X); simp [keep] at h ⊢; rw [if_pos h]; rfl)
   | (change _ = keep (clErr X Y Q) (o1 Q + 2 * Y); simp [keep] at h ⊢; rw [if_pos h]; rfl)
   | (change _ = keep (clErr X Y Q) (o2 Q + 2 * X); simp [keep] at h ⊢; rw [if_pos h]; rfl)
   | (change _ = keep (clErr X Y Q) (o3 Q + 2 * Y); simp [keep] at h ⊢; rw [if_pos h]; rfl)
   | (simp only [o1, o2, o3] at o; grind [keep]))
def lqK (Q : Int) : Int := tb [2, 1, 2, 1] Q.toNat
def lqB (Q : Int) : Int := tb [0, 1, 1, 0] Q.toNat
theorem lq_le {Q : Int} (h0 : 0 ≤ Q) (h1 : Q ≤ 3) : (lqK Q = 1 ∨ lqK Q = 2) ∧ 0 ≤ lqB Q ∧ lqB Q ≤ 1 := by
 have : ∀ q : Nat, q < 4 → (lqK q = 1 ∨ lqK q = 2) ∧ 0 ≤ lqB q ∧ lqB q ≤ 1 := by decide
 have := this Q.toNat (by omega)
 rwa [Int.toNat_of_nonneg h0] at this
def ciK (Q e : Int) : Int := if e = 1 then 3 else if e = 2 then 4 else lqK Q
def ciC (X Y Q e : Int) : Int := if e = 1 then X + Y + 1 else if e = 2 then Y - X else if lqK Q = 2 then Y + lqB Q else X + lqB Q
def ciErr (X Y Q e : Int) : Int := if clErr X Y Q = 0 ∧ e ≤ 2 then (if lnErr (ciK Q e) (ciC X Y Q e) = 0 then 0 else 3) else 1
abbrev nCellLine : FuncId := 107
def kCellLine : Kon
 | [.agg [.int .i64 X, .int .i64 Y, .int .u8 Q], .int .u8 e] => some (0 ≤ Q ∧ 0 ≤ e, .tup [.agg [.int .u8 (keep (ciErr X Y Q e) (ciK Q e)), .int .i64 (keep (ciErr X Y Q e) (ciC X Y Q e))], .int .i64 (ciErr X Y Q e)])
 | _ => none
def FCellLine : Fam := ⟨Int × Int × Int × Int, fun (X, Y, Q, e) => [.agg [.int .i64 X, .int .i64 Y, .int .u8 Q], .int .u8 e], fun (X, Y, Q, e) => 0 ≤ Q ∧ 0 ≤ e, fun (X, Y, Q, e) => .tup [.agg [.int .u8 (keep (ciErr X Y Q e) (ciK Q e)), .int .i64 (keep (ciErr X Y Q e) (ciC X Y Q e))], .int .i64 (ciErr X Y Q e)]⟩
set_option maxHeartbeats 4000000 in
set_option maxRecDepth 100000 in
theorem pCellLine : PS nCellLine kCellLine := by
 refine con [(nCellsCheck, kCellsCheck), (nLnCheck, kLnCheck)] (by simpa using ⟨pCellsCheck, pLnCheck⟩) FCellLine (fun _ _ => none) kCellLine ?_ ?_ Go.Proofs.Tryz.func107 (by kernel_rfl) (by kernel_rfl) (by kernel_rfl) ?_
 ·
  intro args pre s h hp
  unfold kCellLine at h
  split at h
  ·
   rename_i X Y Q e; cases h; exact ⟨(X, Y, Q, e), by simp [FCellLine, le2L, SV.le2, SV.le1, le0L, SV.le0], hp, rfl⟩
  ·
   cases h
 ·
  intro i; show 2 ≤ _; decide
 ·
  rintro ⟨X, Y, Q, e⟩ hp
  replace hp : 0 ≤ Q ∧ 0 ≤ e := hp
  repeat' (first | ((with_reducible refine And.intro (Ask.mk ?_) ?_); first | exact trivial | exact fun _ => trivial) | with_reducible refine And.intro ?_ ?_ | ((with_reducible refine Br.litT ?_ ?_); exact (Eq.refl true)) | ((with_reducible refine Br.litF ?_ ?_); exact (Eq.refl false)) | with_reducible refine Br.mk (fun h => ?_) (fun h => ?_) | with_reducible exact True.intro | with_reducible refine rowEq ?_ | with_reducible refine Ub.mk (fun hu => ?_) | ((with_reducible refine Late.mk ?_); exact rfl) | ((fail_if_success (with_reducible first | refine stopA ?_ | refine stopE ?_ | refine stopF ?_ | refine Exists.intro ?_ ?_ | intro _ | refine stopK ?_ | refine stopL ?_)); conv => whnf))
  all_goals (try with_reducible refine Ask.mk ?_)
  all_goals (try first | exact trivial | exact fun _ => trivial)
  all_goals (try dsimp only)
  all_goals (have c1 := @clErr_zero X Y Q; have o := @lq_le Q hp.1)
  all_goals (try simp only [inK])
  all_goals (simp only [lqK, lqB] at o)
  all_goals grind [ciErr, ciK, ciC, keep, lqK, lqB]
def sX (Q : Int) : Int := tb [0, 1, 0, -1] Q.toNat
def sY (Q : Int) : Int := tb [-1, 0, 1, 0] Q.toNat
def dX (t Q : Int) : Int := poX t 0 0 (sX Q) (sY Q)
def dY (t Q : Int) : Int := poY t 0 0 (sX Q) (sY Q)
def mvHit (t Q : Int) (i : Nat) : Bool := and (decide (tb [0, 1, 0, -1] i = dX t Q)) (and (decide (tb [-1, 0, 1, 0] i = dY t Q)) true)
def mvQn (t Q : Int) : Nat → Int
 | 0 => 0
 | i + 1 => bif mvHit t Q i then i else mvQn t Q i
def mvQ (t Q : Int) : Int := mvQn t Q 4
def half (p : Int) : Int := (p - p % 2).tdiv 2
def mvX (t x y X Y : Int) : Int := half (poX t x y (2 * X + 1) (2 * Y + 1))
def mvY (t x y X Y : Int) : Int := half (poY t x y (2 * X + 1) (2 * Y + 1))
theorem po_le {t x y a b : Int} (ht : 0 ≤ t) (h : mvErr t x y = 0) (a1 : -9000 ≤ a) (a2 : a ≤ 9000) (b1 : -9000 ≤ b) (b2 : b ≤ 9000) : -60000 ≤ poX t x y a b ∧ poX t x y a b ≤ 60000 ∧ -60000 ≤ poY t x y a b ∧ poY t x y a b ≤ 60000 := by
 have m := mvErr_zero h
 have r := turn_le (t := t) (x := a) (y := b) (B := 9000) ht m.1 (by omega) (by omega) (by omega) (by omega)
 unfold poX poY keep
 split <;> omega
theorem half_le {p : Int} (h1 : -60000 ≤ p) (h2 : p ≤ 60000) : -60000 ≤ half p ∧ half p ≤ 60000 := by
 unfold half
 have := Int.tdiv_eq_ediv (a := p - p % 2) (b := 2)
 rw [this]
 split <;> omega
def quartersAgg : SV := .agg (quartersRow 0 ++ quartersRow 1 ++ quartersRow 2 ++ quartersRow 3)
def IMoved : Int × Int × Int × Int × Int × Int → Nat → Option Inv
 | (t, x, y, X, Y, Q), 7 => some { β := Nat, ok := fun i => i ≤ 4, st := fun i => ⟨[⟨47, none, .int .i64 i⟩, ⟨46, none, quartersAgg⟩, ⟨7, none, .own 5 0⟩, ⟨6, none, .own 4 0⟩, ⟨4, none, .own 2 0⟩], [.cells 28 [.int .u8 t, .int .i64 0, .int .i64 0], .cells 59 [.int .i64 X, .int .i64 Y, .int .u8 Q], .cells 59 [.int .i64 0, .int .i64 0, .int .u8 0], .cells 300 [.int .i64 (poX t x y (2 * X + 1) (2 * Y + 1)), .int .i64 (poY t x y (2 * X + 1) (2 * Y + 1))], .cells 300 [.int .i64 (dX t Q), .int .i64 (dY t Q)], .cells 59 [.int .i64 (mvX t x y X Y), .int .i64 (mvY t x y X Y), .int .u8 (mvQn t Q i)]]⟩, μ := fun i => 4 - i }
 | _, _ => none
abbrev nMoved : FuncId := 213
def kMoved : Kon
 | [.agg [.int .u8 t, .int .i64 x, .int .i64 y], .agg [.int .i64 X, .int .i64 Y, .int .u8 Q]] => some (mvErr t x y = 0 ∧ clErr X Y Q = 0 ∧ 0 ≤ t ∧ 0 ≤ Q, .agg [.int .i64 (mvX t x y X Y), .int .i64 (mvY t x y X Y), .int .u8 (mvQ t Q)])
 | _ => none
def FMoved : Fam := ⟨Int × Int × Int × Int × Int × Int, fun (t, x, y, X, Y, Q) => [.agg [.int .u8 t, .int .i64 x, .int .i64 y], .agg [.int .i64 X, .int .i64 Y, .int .u8 Q]], fun (t, x, y, X, Y, Q) => mvErr t x y = 0 ∧ clErr X Y Q = 0 ∧ 0 ≤ t ∧ 0 ≤ Q, fun (t, x, y, X, Y, Q) => .agg [.int .i64 (mvX t x y X Y), .int .i64 (mvY t x y X Y), .int .u8 (mvQ t Q)]⟩
set_option maxHeartbeats 4000000 in
set_option maxRecDepth 100000 in
theorem pMoved : PS nMoved kMoved := by
 refine con [(nMiddle, kMiddle), (nMvPoint, kMvPoint)] (by simpa using ⟨pMiddle, pMvPoint⟩) FMoved IMoved kMoved ?_ ?_ Go.Proofs.Tryz.func213 (by kernel_rfl) (by kernel_rfl) (by kernel_rfl) ?_
 ·
  intro args pre s h hp
  unfold kMoved at h
  split at h
  ·
   rename_i t x y X Y Q; cases h; exact ⟨(t, x, y, X, Y, Q), by simp [FMoved, le2L, SV.le2, SV.le1, le0L, SV.le0], hp, rfl⟩
  ·
   cases h
 ·
  intro i; show 2 ≤ _; decide
 ·
  rintro ⟨t, x, y, X, Y, Q⟩ hp
  replace hp : mvErr t x y = 0 ∧ clErr X Y Q = 0 ∧ 0 ≤ t ∧ 0 ≤ Q := hp
  repeat' (first | ((with_reducible refine And.intro (Ask.mk ?_) ?_); first | exact trivial | exact fun _ => trivial) | with_reducible refine And.intro ?_ ?_ | ((with_reducible refine Br.litT ?_ ?_); exact (Eq.refl true)) | ((with_reducible refine Br.litF ?_ ?_); exact (Eq.refl false)) | with_reducible refine Br.mk (fun h => ?_) (fun h => ?_) | with_reducible exact True.intro | with_reducible refine rowEq ?_ | with_reducible refine Ub.mk (fun hu => ?_) | ((with_reducible refine Late.mk ?_); exact rfl) | ((fail_if_success (with_reducible first | refine stopA ?_ | refine stopE ?_ | refine stopF ?_ | refine Exists.intro ?_ ?_ | intro _ | refine stopK ?_ | refine stopL ?_)); conv => whnf))
  all_goals (try with_reducible refine Ask.mk ?_)
  all_goals (try first | exact trivial | exact fun _ => trivial)
  all_goals (try dsimp only)
  all_goals (have m := mvErr_zero hp.1; have c := clErr_zero hp.2.1; have r := po_le hp.2.2.1 hp.1 (a := 2 * X + 1) (b := 2 * Y + 1) (by omega) (by omega) (by omega) (by omega))
  all_goals (first
   | omega
   | (simp only [inK]; omega)
   | (have q := half_le r.1 r.2.1; simp only [half] at q; simp only [inK]; omega)
   | (have q := half_le r.2.2.1 r.2.2.2; simp only [half] at q; simp only [inK]; omega)
   | refine ⟨(0 : Nat), by decide, ?_, ?_⟩)
  ·
   repeat' (first | ((with_reducible refine And.intro (Ask.mk ?_) ?_); first | exact trivial | exact fun _ => trivial) | with_reducible refine And.intro ?_ ?_ | ((with_reducible refine Br.litT ?_ ?_); exact (Eq.refl true)) | ((with_reducible refine Br.litF ?_ ?_); exact (Eq.refl false)) | with_reducible refine Br.mk (fun h => ?_) (fun h => ?_) | with_reducible exact True.intro | with_reducible refine rowEq ?_ | with_reducible refine Ub.mk (fun hu => ?_) | ((with_reducible refine Late.mk ?_); exact rfl) | ((fail_if_success (with_reducible first | refine stopA ?_ | refine stopE ?_ | refine stopF ?_ | refine Exists.intro ?_ ?_ | intro _ | refine stopK ?_ | refine stopL ?_)); conv => whnf))
   all_goals (try with_reducible refine Ask.mk ?_)
   all_goals (try first | exact trivial | exact fun _ => trivial)
   all_goals (try dsimp only)
   all_goals first | rfl | exact fun _ _ => rfl | skip
  ·
   intro i hi
   replace hi : i ≤ 4 := hi
   have : i = 0 ∨ i = 1 ∨ i = 2 ∨ i = 3 ∨ i = 4 := by omega
   rcases this with rfl | rfl | rfl | rfl | rfl
   repeat' (first | ((with_reducible refine And.intro (Ask.mk ?_) ?_); first | exact trivial | exact fun _ => trivial) | with_reducible refine And.intro ?_ ?_ | ((with_reducible refine Br.litT ?_ ?_); exact (Eq.refl true)) | ((with_reducible refine Br.litF ?_ ?_); exact (Eq.refl false)) | with_reducible refine Br.mk (fun h => ?_) (fun h => ?_) | with_reducible exact True.intro | with_reducible refine rowEq ?_ | with_reducible refine Ub.mk (fun hu => ?_) | ((with_reducible refine Late.mk ?_); exact rfl) | ((fail_if_success (with_reducible first | refine stopA ?_ | refine stopE ?_ | refine stopF ?_ | refine Exists.intro ?_ ?_ | intro _ | refine stopK ?_ | refine stopL ?_)); conv => whnf))
   all_goals (try with_reducible refine Ask.mk ?_)
   all_goals (try first | exact trivial | exact fun _ => trivial)
   all_goals (try dsimp only)
   all_goals (first
    | decide
    | rfl
    | (simp only [inK]; omega)
    | (refine ⟨(1 : Nat), (by decide), (by decide), ?_⟩; (first | (have h : mvHit t Q 0 = true := h) | (have h : mvHit t Q 0 = false := h)))
    | (refine ⟨(2 : Nat), (by decide), (by decide), ?_⟩; (first | (have h : mvHit t Q 1 = true := h) | (have h : mvHit t Q 1 = false := h)))
    | (refine ⟨(3 : Nat), (by decide), (by decide), ?_⟩; (first | (have h : mvHit t Q 2 = true := h) | (have h : mvHit t Q 2 = false := h)))
    | (refine ⟨(4 : Nat), (by decide), (by decide), ?_⟩; (first | (have h : mvHit t Q 3 = true := h) | (have h : mvHit t Q 3 = false := h))))
   repeat' (first | ((with_reducible refine And.intro (Ask.mk ?_) ?_); first | exact trivial | exact fun _ => trivial) | with_reducible refine And.intro ?_ ?_ | ((with_reducible refine Br.litT ?_ ?_); exact (Eq.refl true)) | ((with_reducible refine Br.litF ?_ ?_); exact (Eq.refl false)) | with_reducible refine Br.mk (fun h => ?_) (fun h => ?_) | with_reducible exact True.intro | with_reducible refine rowEq ?_ | with_reducible refine Ub.mk (fun hu => ?_) | ((with_reducible refine Late.mk ?_); exact rfl) | ((fail_if_success (with_reducible first | refine stopA ?_ | refine stopE ?_ | refine stopF ?_ | refine Exists.intro ?_ ?_ | intro _ | refine stopK ?_ | refine stopL ?_)); conv => whnf))
   all_goals (try with_reducible refine Ask.mk ?_)
   all_goals (try first | exact trivial | exact fun _ => trivial)
   all_goals (try dsimp only)
   all_goals first | rfl | exact fun _ _ => rfl | omega | (simp only [mvQn, h, cond_true, cond_false]; done) | (simp only [mvQn]; rw [h]; rfl) | trace_state
end Go.Proofs.YteodgliliglipaaGreatDoor.V
