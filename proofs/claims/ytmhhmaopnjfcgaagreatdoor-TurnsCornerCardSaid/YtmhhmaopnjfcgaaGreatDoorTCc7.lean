/-
  Parts of the proof: De2 De3 De4 A1 A2 A3 P1 P2 A4 P4 A5 A6 P3 A7 Z1 U0 U1 U2 U3. Conditions: none.
-/
import Derived.Test.YtmhhmaopnjfcgaaGreatDoorTCc1
import Derived.Test.YtmhhmaopnjfcgaaGreatDoorTCc3
import Derived.Test.YtmhhmaopnjfcgaaGreatDoorTCc6
import Derived.Test.YtmhhmaopnjfcgaaGreatDoorChecked
import Derived.RangeFuncWrites
import Derived.RangeFuncBox
import Derived.RangeFuncLeaves
import Derived.RangeFuncCalls
import Derived.RangeFuncBound
import Derived.Shelf.Abstract
import Derived.Shelf.RegionOpen
import Derived.WalkKit
import Derived.OwnWalkIn
import Derived.TacticsInMore
import Derived.LoopNIn
import Derived.LoopIn
import Derived.Maps.AppendAt
namespace Go.Proofs.YtmhhmaopnjfcgaaGreatDoor.V.I
open Go Go.Proofs.Tryz
noncomputable section
set_option maxRecDepth 100000
noncomputable def xi86 := xiM 86 f86 324518591135145581616957495164543
theorem xk86 : TOK xi86 := tabOK1 func86 (by kernel_rfl) (by kernel_rfl) rfl rfl
noncomputable def cf86 : FnC := (.mk 324518591135145581616957495164543 138 (.many [(.tmp q2i), (.tmp qq)]) (.seq (.rg (.op .no qe6 q1b (.op .no (.box 78 q0) q22 (.op .no (.box 31 q1d) q24 (.op .no q8x q2h q9j))))) (.seq (.rg (.op .no q8x q1y (.op .no q8x q2a .fin))) (.seq (.seq (.rg (.op .no qc1 .loc (.op .no qb0 .loc qet))) (.block 0 (.loop (.seq qeu (.seq (.cond q7e .skip q2c) (.seq (.block 1 (.seq (.rg (.op .no (.ias 4 q6s q77) .loc (.op .no q9m .loc (.op .no q9n q31 (.op .no (.st 4 q32 qc) .non .fin))))) (.seq (.rg (.op .no q8x q3t (.op .no q8x q3w .fin))) (.seq (.seq (.rg (.op .no (.fadr 3 q32) .loc (.op .no qm q7g (.op .no (.len q7h) q7o (.op .no q20 q7q .fin))))) (.block 2 (.loop (.seq (.rg (.op .no (.bin .lss 3 q7r q7p) q7s .fin)) (.seq (.cond q7u .skip q9v) (.seq (.block 3 (.seq (.rg (.op .no (.ias 1 q7h q7r) .loc (.op .no qm .loc q5y))) (.seq (.rg (.op .no q80 .loc (.op .no q5p .loc (.op .no q87 .loc (.op .no qm qai .fin))))) (.cond qaj (.rg (.op .no qa1 .loc (.op .no q5p .loc (.op .no q97 .loc (.op .no q9d .loc qcx))))) (.rg (.op .no q6t .loc (.op .no q5p .loc (.op .no q97 .loc (.op .no q9d .loc q44))))))))) (.rg (.op .no (.bin .add 3 q7r q35) .loc (.op .no qu q7q .fin))))))))) (.seq (.rg (.op .no q6o .loc (.op .no (.fadr 0 q32) .loc (.op .no q2f .loc (.op .no q6t .loc (.op .no q9y .loc (.op .no q9z .loc (.op .no qac .loc q6n)))))))) (.seq (.rg (.op .no qa1 .loc (.op .no q1x .loc (.op .no qdu qak .fin)))) (.cond qal (.rg (.op .no q6q .loc (.op .no (.fadr 0 q32) .loc (.op .no q2f .loc (.op .no qa1 .loc (.op .no q9y .loc (.op .no q9z .loc (.op .no qac .loc q6p)))))))) .skip))))))) qev)))))) (.seq (.rg (.op .no q6q .loc (.op .no qe4 .loc (.op .no (.call (.lit (.clo 60 [])) [qt, qc]) .loc (.op .no qu .loc (.op .no qw .loc (.op .no q11 .loc (.op .no q74 q2a q96)))))))) (.seq (.seq (.rg (.op .no q75 .loc (.op .no q1f qew .fin))) (.cond qex (.seq (.rg (.op .no q8x q2h (.op .no (.mv q17) qp .fin))) .ret) .skip)) (.seq (.seq (.rg (.op .no q6q qey (.op .no (.len qez) qf0 (.op .no q20 qf1 .fin)))) (.block 4 (.loop (.seq (.rg (.op .no (.bin .lss 3 qf2 qf3) (.kep (.r q79)) .fin)) (.seq (.cond (.kep (.r q79)) .skip qa0) (.seq (.block 5 (.seq (.rg (.op .no (.ias 4 qez qf2) .loc (.op .no q9m .loc (.op .no q9n q7a (.op .no (.st 4 q7b qc) .non .fin))))) (.seq (.rg (.op .no (.fadr 3 q7b) .loc (.op .no qm .loc (.op .no q1x .loc (.op .no qf4 .loc q7m))))) (.seq (.rgd (.op .no (.soft (.fadr 3 q7b)) .loc (.op .no q5s .loc (.op .no qah .loc (.op .no qah .loc (.op .no (.mk (.slice 38 (.tmp 92) Option.none (Option.some (.tmp 93)) (Option.some (.tmp 94))) (rfR 324518591135145581616957495164543 [94, 93, 92, 91] [92, 93, 94]) 0 0) .loc (.op .no (.soft (.fadr 3 q7b)) .loc (.op .no q5s .loc (.op .no qah .loc (.op .no (.mk (.slice 38 (.tmp 97) (Option.some (.tmp 98)) Option.none Option.none) (rfR 324518591135145581616957495164543 [98, 97, 96, 95, 94, 93, 92, 91] [97, 98]) 2 0) .loc (.op .no (.soft (.mv q1p)) q66 (.op .no qv q6c .fin))))))))))) 4) (.seq (.rg (.op .no (.mv q67) .loc qf5)) (.seq (.rg (.op .no (.mv q6d) .loc qf5)) (.seq (.rg (.op .no q6o .loc (.op .no (.gen (.makeFunc (Fn.func 154) (Array.mk []) (Array.mk [(.tmp 22)])) (rfC 324518591135145581616957495164543 [104])) .loc (.op .no qf6 .loc qf7)))) (.seq (.seq (.rg (.op .no (.mv q6l) .loc (.op .no q95 (.kep (.l q7k)) .fin))) (.cond (.kep (.l q7k)) (.seq (.rg (.op .no q6o .loc (.op .no (.fadr 0 q7b) .loc (.op .no q2f .loc (.op .no (.bld [(.mk 0 3 qc)] [(.int .i64 (.ofNat 0)), (.int .i64 (.ofNat 0)), (.int .u8 (.ofNat 0)), (.con (.slice Option.none 0 0))]) .loc (.op .no q9z .loc (.op .no q58 .loc q6n))))))) (.rg (.op .no q6o .loc (.op .no q1x .loc (.op .no q9t .loc qf7))))) .skip)) (.rgd (.op .no (.hard (.call (.lit (.clo 155 [])) [])) .loc (.op .no (.soft (.fadr 4 q33)) .loc (.op .no (.softw qm 1 (.load 76 (.tmp 121)) (rfR 324518591135145581616957495164543 [121, 120] [121])) .loc (.op .no (.soft (.gen (.lookup 261 (.tmp 120) (.tmp 122) false) (rfR 324518591135145581616957495164543 [122, 121, 120] [120, 122]))) .loc (.op .no q72 .loc (.op .no (.soft (.mv q6l)) .loc (.op .no (.softw q9l 1 (.indexAddr 32 (.tmp 124) (.tmp 125)) (rfR 324518591135145581616957495164543 [125, 124, 123, 122, 121, 120] [124, 125])) .loc (.op .no qa7 .loc (.op .no (.softw qm 1 (.load 38 (.tmp 127)) (rfR 324518591135145581616957495164543 [127, 126, 125, 124, 123, 122, 121, 120] [127])) .loc (.op .no (.soft (.mv q67)) .loc (.op .no (.soft (.mv q6d)) .loc (.op .no qf8 .loc (.op .no (.hard (.call q2u [qf, qi, qt, qc])) .loc (.op .no q72 .loc (.op .no (.soft (.mv q6l)) .loc qaa))))))))))))))) 0))))))))) (.rg (.op .no (.bin .add 3 qf2 q35) .loc (.op .no qu qf1 .fin))))))))) (.seq (.rg (.op .no q6o .loc (.op .no (.call (.lit (.clo 49 [])) [q6g, qc]) .loc (.op .no qu q2h q9j)))) .ret))))))))
theorem ck86 : compF Tryz.prog xi86 = some cf86 := by kernel_rfl
noncomputable def xi87 := xiM 87 f87 23
theorem xk87 : TOK xi87 := tabOK1 func87 (by kernel_rfl) (by kernel_rfl) rfl rfl
noncomputable def cf87 : FnC := (.mk 23 10 qec (.seq qee (.seq (.rg (.op .no (.ld 10 true qk) .loc (.op .no q4s .loc (.op .no q97 .loc (.op .no (.gen (.makeFunc (Fn.func 156) (Array.mk []) (Array.mk [(.tmp 2)])) (rfC 23 [7, 6, 5])) .loc (.op .no (.call (.lit (.clo 150 [])) [qf, qt, qc]) .loc q5g)))))) .ret)))
theorem ck87 : compF Tryz.prog xi87 = some cf87 := by kernel_rfl
noncomputable def xi88 := xiM 88 f88 35184376021943
theorem xk88 : TOK xi88 := tabOK1 func88 (by kernel_rfl) (by kernel_rfl) rfl rfl
noncomputable def cf88 : FnC := (.mk 35184376021943 60 (.one (.cell 7 true q10)) (.seq (.rg (.op .no q3g qj (.op .no q4r qz .fin))) (.seq (.rg (.op .no q64 .loc (.op .no (.call (.lit (.clo 22 [])) [qc]) .loc (.op .no qu .loc (.op .no qw .loc (.op .no q11 .loc (.op .no q5c q13 qf9))))))) (.seq (.seq (.rg (.op .no q9h .loc (.op .no q1w .loc qe0))) (.block 0 (.loop (.seq qe1 (.seq q2d (.seq (.block 1 (.seq (.rg (.op .no q6o .loc (.op .no (.ias 3 q2i q1z) .loc (.op .no q2f .loc (.op .no q2g q22 (.op .no q5q q1b qfa)))))) (.seq (.rg (.op .no qfb .loc (.op .no q52 .loc (.op .no qao .loc (.op .no qm .loc (.op .no (.fadr 1 q33) .loc (.op .no qm .loc (.op .no qeh .loc (.op .no qu .loc (.op .no qw .loc (.op .no q11 .loc (.op .no q74 q24 q71)))))))))))) (.seq (.rg (.op .no q4s .loc (.op .no qao .loc (.op .no qm .loc (.op .no q19 .loc (.op .no qm .loc (.op .no qu .loc (.op q1g q4s .loc (.op q1i q28 .loc (.op q1k q87 .loc (.op q1n qm .loc (.op .no qdr q31 .fin)))))))))))) (.cond q32 (.rgd (.op .no q9i .loc (.op .no q5w .loc (.op .no q5s .loc (.op .no qfc .loc (.op .no (.soft (.fadr 2 q1d)) .loc (.op .no q5s .loc (.op .no qfc .loc (.op .no qfd .loc (.op .no q5w .loc (.op .no q5s .loc (.op .no (.soft (.ias 3 q2q q4l)) .loc q5x))))))))))) 0) .skip))))) qe5)))))) (.seq (.rg (.op .no q64 .loc q4v)) .ret)))))
theorem ck88 : compF Tryz.prog xi88 = some cf88 := by kernel_rfl
noncomputable def xi89 := xiM 89 f89 262715
theorem xk89 : TOK xi89 := tabOK1 func89 (by kernel_rfl) (by kernel_rfl) rfl rfl
noncomputable def cf89 : FnC := (.mk 262715 24 qec (.seq qfe (.seq (.seq (.rg q4w) (.block 0 (.loop (.seq (.seq (.rg (.op .no q1e .loc (.op .no qb .loc qff))) q4y) (.seq (.block 1 (.seq (.rgd (.op .no qfg .loc (.op .no q54 .loc (.op .no qa4 .loc (.op .no q51 .loc (.op .no q9p .loc (.op .no qfh .loc (.op .no (.soft (.bin .eql 37 qt qc)) q22 .fin))))))) 0) (.cond q33 (.seq (.rg (.op .no qb .loc (.op .no q1e .loc (.op .no q9l .loc (.op .no (.fadr 3 qc) .loc qdb))))) .ret) .skip))) q59))))) (.seq (.rg qed) .ret))))
theorem ck89 : compF Tryz.prog xi89 = some cf89 := by kernel_rfl
noncomputable def xi90 := xiM 90 f90 1048583
theorem xk90 : TOK xi90 := tabOK1 func90 (by kernel_rfl) (by kernel_rfl) rfl rfl
noncomputable def cf90 : FnC := (.mk 1048583 21 q3f (.seq (.rg (.op .no qcj q4 q3h)) (.seq (.seq (.rg (.op .no q3s .loc (.op .no qm .loc (.op .no (.bin .lss 63 qc qg) .loc (.op .no qu .loc (.op q1g q3s .loc (.op q1i qm .loc (.op q1k (.bin .gtr 63 qc q6) .loc (.op .no q4h .loc (.op .no qu .loc (.op q1g q4g .loc (.op q1i qm .loc (.op q1k qfi .loc (.op .no q4h .loc (.op .no qu .loc (.op q1g q4g .loc (.op q1i qm .loc (.op q1k qfj .loc qfk)))))))))))))))))) q4q) q4c)))
theorem ck90 : compF Tryz.prog xi90 = some cf90 := by kernel_rfl
noncomputable def xi91 := xiM 91 f91 2251800954540015
theorem xk91 : TOK xi91 := tabOK1 func91 (by kernel_rfl) (by kernel_rfl) rfl rfl
noncomputable def cf91 : FnC := (.mk 2251800954540015 82 q3f (.seq (.rg (.op .no q3g q4 qby)) (.seq (.rg (.op .no q3s .loc (.op .no q2f .loc (.op .no qas .loc (.op .no q2f .loc (.op .no qae .loc (.op .no qu .loc (.op .no qw .loc (.op .no q11 .loc (.op .no q74 qz q71)))))))))) (.seq (.rg (.op .no q3s .loc (.op .no q2f .loc (.op .no qfl .loc q3l)))) (.seq (.rg qfm) (.seq (.seq (.rg q23) (.block 0 (.loop (.seq (.seq (.rg (.op .no q34 .loc (.op .no q8l .loc (.op .no q1x .loc (.op .no q83 q2a .fin))))) q2d) (.seq (.block 1 (.seq q26 (.block 2 (.loop (.seq (.seq (.rg (.op .no q28 .loc (.op .no qfn q31 .fin))) (.cond q32 .skip q9v)) (.seq (.block 3 (.seq (.rg (.op .no q3s .loc (.op .no q50 .loc (.op .no q52 .loc (.op .no q34 .loc (.op .no q28 .loc (.op .no qfo .loc q8y))))))) (.seq (.seq (.rg (.op .no q8n .loc (.op .no q34 .loc (.op .no qdk .loc (.op .no qu .loc (.op q1g q1e .loc (.op q1i q34 .loc (.op q1k qfp .loc (.op q1n q28 .loc (.op q1q qfq .loc (.op q4k qe8 .loc (.op qfr qm .loc (.op q2w qeo .loc (.op .no q2z q3t .fin)))))))))))))) (.cond q3v (.exit 3) .skip)) (.seq (.rgd (.op .no qfs .loc (.op .no q51 .loc (.op .no q53 .loc (.op .no q85 .loc (.op .no q56 .loc (.op .no qf8 .loc (.op .no q85 .loc (.op .no (.softw q2e 1 (.indexAddr 163 (.tmp 52) (.tmp 53)) (rfR 2251800954540015 [53, 52, 60, 59, 58, 57, 56] [52, 53])) .loc (.op .no (.softw q2f 1 (.load 31 (.tmp 54)) (rfR 2251800954540015 [54, 53, 52, 60, 59, 58, 57, 56] [54])) .loc (.op .no qft .loc (.op .no qfs .loc (.op .no q51 .loc (.op .no (.softw q52 2 (.load 26 (.tmp 67)) (rfR 2251800954540015 [67, 66, 61, 55, 54, 53, 52, 60, 59, 58, 57, 56] [67])) .loc (.op .no q9s .loc (.op .no q56 .loc (.op .no qf8 .loc (.op .no q9s .loc (.op .no (.softw q2e 3 (.indexAddr 163 (.tmp 62) (.tmp 63)) (rfR 2251800954540015 [63, 62, 70, 69, 68, 67, 66, 61, 55, 54, 53, 52, 60, 59, 58, 57, 56] [62, 63])) .loc (.op .no (.softw q2f 3 (.load 31 (.tmp 64)) (rfR 2251800954540015 [64, 63, 62, 70, 69, 68, 67, 66, 61, 55, 54, 53, 52, 60, 59, 58, 57, 56] [64])) .loc (.op .no qft .loc (.op .no qfu qp (.op .no (.alloc 37 [(.int .i64 (.ofNat 0)), (.int .i64 (.ofNat 0)), (.int .u8 (.ofNat 0))] 2) q1y (.op .no (.hard (.st 3 qq qan)) .non (.op .no (.hard (.st 3 q1z qc)) .non .fin)))))))))))))))))))))))) 4) (.rg (.op .no q1m .loc (.op .no q34 .loc (.op .no q8n .loc (.op .no q8o .loc (.op .no q8s .loc (.op .no (.call (.lit (.clo 159 [])) [qt, qc]) .loc (.op .no (.bld [(.mk 0 1 q1p), (.mk 1 1 qf), (.mk 2 2 qc)] [(.int .i64 (.ofNat 0)), (.int .i64 (.ofNat 0)), (.int .u8 (.ofNat 0)), (.int .i64 (.ofNat 0))]) .loc (.op .no (.bsl 179 1 4 [qc]) .loc (.op .no (.app 176 179 4 32 q2q qc) .loc q1c)))))))))))))) q3a)))))) q38))))) q3p))))))
theorem ck91 : compF Tryz.prog xi91 = some cf91 := by kernel_rfl
noncomputable def xi92 := xiM 92 f92 4294967423
theorem xk92 : TOK xi92 := tabOK1 func92 (by kernel_rfl) (by kernel_rfl) rfl rfl
noncomputable def cf92 : FnC := (.mk 4294967423 33 qfv (.seq (.rg (.op .no qcj qj (.op .no q7y qz qfw))) (.seq (.rg (.op .no qbu .loc (.op .no qfx .loc qfz))) (.seq (.rg (.op .no qc1 .loc (.op .no qm .loc (.op .no qg0 .loc (.op .no qm .loc (.op .no qc1 .loc (.op .no qm .loc (.op .no qg0 .loc (.op .no qm .loc (.op .no qg1 .loc (.op .no qg0 .loc (.op .no qm .loc (.op .no qc1 .loc (.op .no qm .loc (.op .no qg2 .loc (.op .no (.bsl 3 5 1 [q15, qdy, qan, q1s, qc]) .loc (.op .no q9h .loc (.op .no qm .loc (.op .no q19 .loc (.op .no qm .loc q37)))))))))))))))))))) (.seq (.seq (.rg (.op .no q34 .loc (.op .no qg3 .loc (.op .no qm .loc (.op .no qg4 .loc (.op .no q9k q24 .fin)))))) (.cond q27 (.seq (.rg qfw) .ret) .skip)) qg5)))))
theorem ck92 : compF Tryz.prog xi92 = some cf92 := by kernel_rfl
noncomputable def xi93 := xiM 93 f93 281475043820543
theorem xk93 : TOK xi93 := tabOK1 func93 (by kernel_rfl) (by kernel_rfl) rfl rfl
noncomputable def cf93 : FnC := (.mk 281475043820543 51 qg6 (.seq (.rg (.op .no qg7 qj (.op .no qbr qz (.op .no q70 q13 .fin)))) (.seq (.rgd (.op .no qfh .loc (.op .no (.soft (.bld [] [(.int .i64 (.ofNat 0)), (.int .i64 (.ofNat 0))])) .loc (.op .no qg8 .loc (.op .no (.softw qbu 1 (.load 31 (.tmp 3)) (rfR 281475043820543 [13, 12, 11] [3])) .loc (.op .no qg9 .loc (.op .no qga q1b (.op .no (.hard (.st 2 q1l qc)) .non .fin))))))) 2) (.seq (.rgd (.op .no qfh .loc (.op .no qgb .loc (.op .no qg8 .loc (.op .no (.softw qbu 1 (.load 31 (.tmp 3)) (rfR 281475043820543 [18, 17, 16] [3])) .loc (.op .no qg9 .loc (.op .no qga q22 (.op .no (.hard (.st 2 q33 qc)) .non .fin))))))) 2) (.seq (.rgd (.op .no qfh .loc (.op .no qgc .loc (.op .no qg8 .loc (.op .no (.softw qbu 1 (.load 31 (.tmp 3)) (rfR 281475043820543 [23, 22, 21] [3])) .loc (.op .no qg9 .loc (.op .no qga q24 (.op .no (.hard (.st 2 q27 qc)) .non .fin))))))) 2) (.seq (.seq (.rg (.op .no qd0 q2h .fin)) (.block 0 (.loop (.seq (.seq (.rg (.op .no q8n .loc (.op .no (.bin .lss 5 qc (.lit (.int .u8 (.ofNat 8)))) q1y .fin))) qgd) (.seq (.block 1 (.seq (.rgd (.op .no (.soft qc1) .loc (.op .no q5s .loc (.op .no qge .loc (.op .no (.soft qg0) .loc (.op .no (.softw qm 1 (.load 3 (.tmp 33)) (rfR 281475043820543 [33, 32, 31, 30] [33])) .loc (.op .no qge .loc (.op .no q9s .loc (.op .no (.soft (.bld [(.mk 0 1 qc), (.mk 1 1 q1p), (.mk 2 1 qt)] [(.int .u8 (.ofNat 0)), (.int .i64 (.ofNat 0)), (.int .i64 (.ofNat 0))])) .loc (.op .no qgf qp (.op .no (.hard (.st 3 qq qc)) .non .fin)))))))))) 2) (.seq (.rgd (.op .no (.soft q8o) .loc (.op .no qgb .loc (.op .no qg8 .loc (.op .no (.softw qgg 1 (.load 267 (.tmp 6)) (rfR 281475043820543 [39, 38, 37] [6])) .loc (.op .no qgh .loc (.op .no qv .loc (.op q2k (.soft q8o) .loc (.op q2m qgc .loc (.op q2n qg8 .loc (.op q2o (.softw qgi 1 (.load 267 (.tmp 7)) (rfR 281475043820543 [45, 44, 43, 42, 41, 40, 39, 38, 37] [7, 42])) .loc (.op q8p qgh .loc (.op .no (.soft q8r) q2a .fin)))))))))))) 0) (.cond q2b (.seq (.rg (.op .no q8o .loc qbd)) .ret) .skip)))) (.rg (.op .no q8n .loc (.op .no (.bin .add 5 qc qg) .loc q8y)))))))) (.seq (.rg (.op .no qck .loc qbd)) .ret)))))))
theorem ck93 : compF Tryz.prog xi93 = some cf93 := by kernel_rfl
noncomputable def xi94 := xiM 94 f94 31
theorem xk94 : TOK xi94 := tabOK1 func94 (by kernel_rfl) (by kernel_rfl) rfl rfl
noncomputable def cf94 : FnC := (.mk 31 10 qg6 (.seq (.rg (.op .no qg7 qj (.op .no q7y qz (.op .no q8k q13 .fin)))) (.seq (.rgd (.op .no (.soft qbu) .loc (.op .no (.hard qfx) .loc (.op .no (.softw qbt 1 (.load 31 (.tmp 2)) (rfR 31 [7, 6] [2])) .loc (.op .no qg9 .loc (.op .no (.hard (.call (.lit (.clo 163 [])) [qc])) .loc (.op .no (.hard qbc) .non .fin)))))) 0) .ret)))
theorem ck94 : compF Tryz.prog xi94 = some cf94 := by kernel_rfl
noncomputable def xi95 := xiM 95 f95 4294971453
theorem xk95 : TOK xi95 := tabOK1 func95 (by kernel_rfl) (by kernel_rfl) rfl rfl
noncomputable def cf95 : FnC := (.mk 4294971453 52 q1 (.seq qbn (.seq (.rg (.op .no (.bsl 40 0 4 []) .loc (.op .no qb .loc (.op .no qgj .loc q3n)))) (.seq (.seq qgk (.block 0 (.loop (.seq (.seq (.rg (.op .no q8l .loc (.op .no q80 .loc qff))) q4y) (.seq (.block 1 (.seq qgl (.block 2 (.loop (.seq (.seq (.rgd (.op .no q54 .loc (.op .no qgm .loc (.op .no qv .loc (.op q2k q89 .loc (.op q2m q54 .loc (.op q2n qgn .loc (.op q2o qgo .loc (.op q8p q51 .loc (.op qdv q9p .loc (.op qdw q89 .loc (.op q2r q54 .loc (.op q2v qa4 .loc (.op qel q51 .loc (.op qep q9p .loc (.op qgp (.hard (.call (.lit (.clo 164 [])) [q1s, qc])) .loc (.op qgq (.soft q8q) .loc (.op .no qgr q22 .fin))))))))))))))))) 0) (.cond q33 .skip q9v)) (.seq (.block 3 (.rgd (.op .no q89 .loc (.op .no q54 .loc (.op .no qgn .loc (.op .no q89 .loc (.op .no q54 .loc (.op .no qa4 .loc (.op .no qgs .loc (.op .no q89 .loc (.op .no q54 .loc (.op .no qgn .loc (.op .no qgo .loc (.op .no qgs .loc (.op .no (.soft (.ias 4 qbl qap)) .loc (.op .no (.hard (.st 4 qc q4l)) .non (.op .no q89 .loc (.op .no q54 .loc (.op .no qa4 .loc (.op .no (.hard (.st 4 qc q1p)) .non .fin)))))))))))))))))) 0)) qgt)))))) qgu))))) qde))))
theorem ck95 : compF Tryz.prog xi95 = some cf95 := by kernel_rfl
noncomputable def xi96 := xiM 96 f96 2614529364151603555249210556415
theorem xk96 : TOK xi96 := tabOK1 func96 (by kernel_rfl) (by kernel_rfl) rfl rfl
noncomputable def cf96 : FnC := (.mk 2614529364151603555249210556415 110 qbp (.seq qbs (.seq (.rg (.op .no q9h .loc (.op .no q50 .loc (.op .no qm .loc (.op .no q4x .loc (.op .no q9h .loc (.op .no qam .loc (.op .no qm .loc (.op .no (.bin .mul 3 qf qc) .loc q37))))))))) (.seq (.rg (.op .no q34 .loc (.op .no (.gen (.makeSlice 163 (.tmp 23) (.tmp 23)) (rfC 2614529364151603555249210556415 [23])) .loc q39))) (.seq (.rg (.op .no q34 .loc (.op .no (.gen (.makeSlice 91 (.tmp 25) (.tmp 25)) (rfC 2614529364151603555249210556415 [25])) .loc q8y))) (.seq (.seq (.rg (.op .no q34 .loc (.op .no q4f q49 .fin))) (.cond q4a qgv .skip)) (.seq (.rg (.op .no q28 .loc (.op .no q8n .loc (.op .no qbu .loc (.op .no (.ias 3 qi q15) .loc (.op .no q9x .non (.op .no (.ias 1 qi q15) .loc qgw))))))) (.seq (.rg (.op .no qbt .loc (.op .no qfl .loc q6h))) (.seq (.seq qgx (.block 0 (.loop (.seq (.seq (.rg (.op .no q6o q5l .fin)) q5o) (.block 1 (.seq (.rg (.op .no q3 q1y .fin)) (.seq (.rg qb8) (.block 2 (.loop (.seq (.seq (.rg (.op .no q6q .loc (.op .no q34 .loc (.op .no qdk q7a .fin)))) (.cond q7b .skip q9v)) (.seq (.block 3 (.seq (.rg (.op .no q20 q31 .fin)) (.block 4 (.loop (.seq (.seq (.rg (.op .no q9c .loc (.op .no qfn .loc (.op .no qu .loc (.op q2k q8n .loc (.op q2m q6q .loc (.op q2n q87 .loc (.op q2o qm .loc (.op .no q8t q7l .fin))))))))) (.cond q7n .skip qa0)) (.seq (.block 5 (.seq (.rg (.op .no q9h .loc (.op .no q52 .loc (.op .no q6q .loc (.op .no q9c .loc (.op .no qfo .loc q44)))))) (.seq (.seq (.rg (.op .no q6t .loc (.op .no q95 q66 .fin))) (.cond q67 (.exit 5) .skip)) (.seq (.rg (.op .no q28 .loc (.op .no q6q .loc (.op .no q2e .loc (.op .no q2f .loc (.op .no q70 q3w (.op .no (.st 3 q3y qc) .non .fin))))))) (.seq (.seq (.rg (.op .no q5t .loc (.op .no q6q .loc (.op .no qfp .loc (.op .no q9c .loc (.op .no qfq .loc (.op .no qe8 .loc (.op .no qm .loc (.op .no qeo q6c .fin))))))))) (.cond q6d (.rgd (.op .no q9i .loc (.op .no q53 .loc (.op .no qgy .loc (.op .no q56 .loc (.op .no q9i .loc (.op .no (.softw q52 1 (.load 26 (.tmp 75)) (rfR 2614529364151603555249210556415 [75, 74, 73, 72, 71] [75])) .loc (.op .no qa5 .loc (.op .no q56 .loc (.op .no (.hard (.call (.lit (.clo 165 [])) [q1p, qc])) .loc (.op .no q86 .loc (.op .no qgy .loc (.op .no (.softw q2e 3 (.indexAddr 163 (.tmp 80) (.tmp 81)) (rfR 2614529364151603555249210556415 [81, 80, 79, 78, 77, 76, 75, 74, 73, 72, 71] [80, 81])) .loc (.op .no (.softw q2f 3 (.load 31 (.tmp 82)) (rfR 2614529364151603555249210556415 [82, 81, 80, 79, 78, 77, 76, 75, 74, 73, 72, 71] [82])) .loc (.op .no (.hard (.call (.lit (.clo 93 [])) [q1p, qc])) .loc (.op .no (.hard (.st 3 q3y qc)) .non .fin))))))))))))))) 0) .skip)) (.seq (.seq (.rgd (.op .no q9s .loc (.op .no qa5 .loc (.op .no q88 .loc (.op .no q5s .loc (.op .no qv .loc (.op q2k q86 .loc (.op q2m qa5 .loc (.op q2n qfd .loc (.op q2o q9p .loc (.op q8p (.soft q73) .loc (.op qdv qgz .loc (.op .no (.soft (.pick q4l qc q2)) q6j .fin)))))))))))) 0) (.cond q6l qgv .skip)) (.seq (.rg (.op .no q8n .loc (.op .no q6t .loc (.op .no q87 .loc (.op .no qm .loc (.op .no qa2 q6r .fin)))))) (.cond q6s (.seq (.rg (.op .no q28 .loc (.op .no q6t .loc (.op .no q8n .loc (.op .no q6t .loc (.op .no q73 .loc qh0)))))) qgx) .skip)))))))) (.rg (.op .no q9c .loc (.op .no q36 .loc q9b))))))))) (.rg (.op .no q6q .loc (.op .no q36 .loc q6p)))))))))))))) (.seq (.rg (.op .no q28 .loc (.op .no qu q13 q8a))) .ret))))))))))
theorem ck96 : compF Tryz.prog xi96 = some cf96 := by kernel_rfl
noncomputable def xi97 := xiM 97 f97 2147615439
theorem xk97 : TOK xi97 := tabOK1 func97 (by kernel_rfl) (by kernel_rfl) rfl rfl
noncomputable def cf97 : FnC := (.mk 2147615439 32 qfv (.seq (.rg (.op .no q4d qz qfw)) (.seq (.seq (.rg q8a) (.block 0 (.loop (.seq (.seq (.rg (.op .no q1m .loc (.op .no qfn q22 .fin))) qh1) (.seq (.block 1 (.seq (.seq (.rg (.op .no qcc .loc (.op .no q4s .loc (.op .no q1m .loc (.op .no qfo .loc (.op .no q80 .loc (.op .no qdc q24 .fin))))))) (.cond q27 q9a .skip)) (.seq (.seq (.rg (.op .no q4s .loc (.op .no qc9 .loc (.op .no q80 .loc (.op .no qc9 .loc (.op .no qg1 .loc (.op .no q8q .loc (.op .no qu .loc (.op q1g q4s .loc (.op q1i qc9 .loc (.op q1k q80 .loc (.op q1n qc9 .loc (.op q1q qg1 .loc (.op q4k (.bin .eql 3 qc q16) .loc (.op .no q4m q2h .fin))))))))))))))) (.cond q2i qg5 .skip)) qh2))) (.rg (.op .no q1m .loc (.op .no q36 .loc q1c)))))))) (.seq (.rg qfw) .ret))))
theorem ck97 : compF Tryz.prog xi97 = some cf97 := by kernel_rfl
noncomputable def xi98 := xiM 98 f98 36028797018964253
theorem xk98 : TOK xi98 := tabOK1 func98 (by kernel_rfl) (by kernel_rfl) rfl rfl
noncomputable def cf98 : FnC := (.mk 36028797018964253 75 q1 (.seq qbn (.seq (.seq q4o (.block 0 (.loop (.seq (.seq (.rg (.op .no q80 .loc (.op .no qb .loc (.op .no q1x .loc (.op .no q83 q13 .fin))))) (.cond q1d .skip q2c)) (.seq (.block 1 (.seq (.rg (.op .no q80 .loc q5g)) (.block 2 (.loop (.seq (.seq (.rgd (.op .no qf8 .loc (.op .no qgm .loc (.op .no qv .loc (.op q2k qfg .loc (.op q2m qf8 .loc (.op q2n qgn .loc (.op q2o qh3 .loc (.op q8p q51 .loc (.op qdv q5s .loc (.op qdw qfg .loc (.op q2r qf8 .loc (.op q2v qfd .loc (.op qel q51 .loc (.op qep q5s .loc (.op qgp (.soft (.bin .gtr 3 q1s qc)) .loc (.op qgq qv .loc (.op q1g qfg .loc (.op q1i qf8 .loc (.op q1k qgn .loc (.op q1n qh3 .loc (.op q1q q51 .loc (.op q4k q5s .loc (.op qfr qfg .loc (.op q2w qf8 .loc (.op (.yes q2u false) qfd .loc (.op (.yes qap false) q51 .loc (.op (.yes qan false) q5s .loc (.op qdx qh4 .loc (.op (.yes qdy false) qv .loc (.op q2k qfg .loc (.op q2m qf8 .loc (.op q2n qgn .loc (.op q2o qh3 .loc (.op q8p (.soft qam) .loc (.op qdv q5s .loc (.op qdw qfg .loc (.op q2r qf8 .loc (.op q2v qfd .loc (.op qel (.soft qam) .loc (.op qep q5s .loc (.op qgp (.soft (.bin .gtr 5 q1s qc)) .loc (.op (.yes (.loc qh5) false) qh6 .loc (.op (.yes (.loc qh7) true) (.soft qh8) .loc (.op .no (.soft (.pick (.loc (.s qh7)) qc q2)) q1b .fin)))))))))))))))))))))))))))))))))))))))))))) 0) (.cond q1l .skip q9v)) (.seq (.block 3 (.rgd (.op .no qfg .loc (.op .no qf8 .loc (.op .no qgn .loc (.op .no qfg .loc (.op .no qf8 .loc (.op .no qfd .loc (.op .no q9p .loc (.op .no qfg .loc (.op .no qf8 .loc (.op .no qgn .loc (.op .no qh3 .loc (.op .no q9p .loc (.op .no (.soft (.ias 3 qbl qap)) .loc (.op .no (.hard (.st 3 qc q4l)) .non (.op .no qfg .loc (.op .no qf8 .loc (.op .no qfd .loc (.op .no (.hard (.st 3 qc q1p)) .non .fin)))))))))))))))))) 0)) qh9)))))) (.rg (.op .no q80 .loc (.op .no q36 .loc q3n)))))))) (.seq (.rg (.op .no qb .loc q3e)) .ret))))
theorem ck98 : compF Tryz.prog xi98 = some cf98 := by kernel_rfl
noncomputable def xi99 := xiM 99 f99 1216944609464568979304416360791007
theorem xk99 : TOK xi99 := tabOK1 func99 (by kernel_rfl) (by kernel_rfl) rfl rfl
noncomputable def cf99 : FnC := (.mk 1216944609464568979304416360791007 126 (.many [q62, q8v]) (.seq (.rg (.op .no qbq qz (.op .no qbr q13 (.op .no q8x q1b q23)))) (.seq (.seq (.rg (.op .no qbu .loc (.op .no q7z .loc (.op .no q80 .loc (.op .no (.call (.lit (.clo 166 [])) [qi, qt, qc]) .loc q39))))) (.seq (.rg (.op .no q28 .loc (.op .no q1f q7a .fin))) (.cond q7b (.seq (.rg (.op .no q28 .loc (.op .no q8x q1b q37))) .ret) .skip))) (.seq (.rgd (.op .no q4z .loc (.op .no q53 .loc (.op .no (.hard qha) .loc (.op .no (.softw qbu 1 (.load 29 (.tmp 3)) (rfR 1216944609464568979304416360791007 [29, 28, 27] [3])) .loc (.op .no (.mk (.makeSlice 38 (.tmp 29) (.tmp 29)) (rfR 1216944609464568979304416360791007 [26, 29, 28, 27] [29, 29]) 0 0) .loc (.op .no (.mk (.makeMap 275 Option.none) (rfR 1216944609464568979304416360791007 [30, 26, 29, 28, 27] []) 2 0) .loc (.op .no (.soft (.bld [(.mk 0 3 qi), (.mk 5 1 qt), (.mk 6 1 qc)] [(.int .i64 (.ofNat 0)), (.int .i64 (.ofNat 0)), (.con (.slice Option.none 0 0)), (.con (.slice Option.none 0 0)), (.con (.slice Option.none 0 0)), (.con (.slice Option.none 0 0)), (.con (.map Option.none)), (.con (.slice Option.none 0 0))])) .loc (.op .no (.box 278 qc 4) .loc q8j)))))))) 6) (.seq (.rg (.op .no q8n .loc (.op .no qbu .loc (.op .no q7z .loc (.op .no (.call (.lit (.clo 147 [])) [qt, qc]) .loc (.op .no qu .loc (.op .no qw .loc (.op .no q11 .loc (.op .no (.nilc q4l) .loc (.op .no (.fadr 3 qc) .loc qhb)))))))))) (.seq (.rg (.op .no q8n .loc (.op .no qbu .loc (.op .no q7z .loc (.op .no qhc .loc (.op .no qu .loc (.op .no qw .loc (.op .no q11 .loc (.op .no (.nilc q4l) .loc (.op .no (.fadr 4 qc) .loc qhb)))))))))) (.seq (.seq (.rg (.op .no q80 q7l qhd)) (.block 0 (.loop (.seq qhe (.seq (.cond q6l .skip q2c) (.seq (.block 1 (.seq (.rg (.op .no (.ias 4 q7n q6d) .loc qhf)) (.seq (.rg (.op .no (.fadr 3 qq) .loc qet)) (.block 2 (.loop (.seq qeu (.seq (.cond q7e .skip q9v) (.seq (.block 3 (.seq (.rg (.op .no (.mv q77) .loc (.op .no (.ias 1 q6s q77) .loc (.op .no qm .loc (.op .no q5q q1y q6p))))) (.rg (.op .no q8n .loc (.op .no qhg .loc (.op .no (.fadr 5 qc) .loc (.op .no qm .loc (.op .no q6q .loc (.op .no q6o .loc (.op .no (.ias 1 qi qt) .loc qad)))))))))) qev)))))))) qhh)))))) (.seq (.seq (.rg (.op .no q8n .loc (.op .no qhg .loc (.op .no (.fadr 5 qc) .loc (.op .no qm .loc (.op .no q1x q7g (.op .no q20 q7o .fin))))))) (.block 4 (.loop (.seq (.rg (.op .no (.bin .lss 3 q7p q7h) q7q .fin)) (.seq (.cond q7r .skip qa0) (.seq (.block 5 (.seq (.rg (.op .no (.mv q7p) .loc q9b)) (.seq (.rg (.op .no qd0 q7s .fin)) (.block 6 (.loop (.seq (.rg (.op .no (.bin .lss 5 q7u qbk) qai .fin)) (.seq (.cond qaj .skip (.exit 6)) (.seq (.block 7 (.seq (.rg (.op .no (.mv q7u) .loc q44)) (.rg (.op .no q8n .loc (.op .no q9c .loc (.op .no q6t .loc (.op .no (.call (.lit (.clo 168 [])) [qi, qt, qc]) .loc .fin))))))) (.rg (.op .no (.bin .add 5 q7u qg) .loc q7t)))))))))) (.rg (.op .no (.bin .add 3 q7p q35) .loc (.op .no qu q7o .fin))))))))) (.seq (.rg (.op .no q8n .loc (.op .no qhg .loc (.op .no qhi .loc (.op .no qm .loc (.op .no (.call (.lit (.clo 169 [])) [qc, (.lit (.clo 170 []))]) .loc .fin)))))) (.seq (.rg (.op .no q8n .loc (.op .no qhg .loc (.op .no qhi .loc (.op .no qm .loc (.op .no q1x .loc (.op .no (.gen (.makeSlice 92 (.tmp 101) (.tmp 101)) (rfC 1216944609464568979304416360791007 [101, 100, 99, 98, 97])) .loc qcx))))))) (.seq (.seq (.rg (.op .no q8n .loc (.op .no qhg .loc (.op .no qhi .loc (.op .no qm qak (.op .no (.len qal) qew (.op .no q20 qey .fin))))))) (.block 8 (.loop (.seq (.rg (.op .no (.bin .lss 3 qez qex) qf0 .fin)) (.seq (.cond qf3 .skip (.exit 8)) (.seq (.block 9 (.seq (.rg (.op .no (.mv qez) .loc (.op .no (.ias 6 qal qez) .loc (.op .no (.ld 6 true qc) .loc (.op .no qhj q5l (.op .no q5q q49 (.op .no (.st 6 q5n qc) .non .fin))))))) (.rgd (.op .no q9s .loc (.op .no q9s .loc (.op .no qhk .loc (.op .no qhl .loc (.op .no q5s .loc (.op .no (.soft (.ld 6 true q5n)) .loc (.op .no (.soft (.gen (.lookup 275 (.tmp 119) (.tmp 120) false) (rfR 1216944609464568979304416360791007 [120, 119, 118, 117, 116, 115] [119, 120]))) .loc (.op .no (.hard (.call (.lit (.clo 171 [])) [q4l, qc])) .loc (.op .no (.soft qa1) .loc (.op .no qa3 .loc (.op .no (.soft (.ias 9 qt qc)) .loc (.op .no (.hard (.st 9 qc qf)) .non .fin)))))))))))) 0))) (.rg (.op .no (.bin .add 3 qez q35) .loc (.op .no qu qey .fin))))))))) (.seq (.rg (.op .no qa1 .loc (.op .no qu q1b q23))) .ret))))))))))))
theorem ck99 : compF Tryz.prog xi99 = some cf99 := by kernel_rfl
noncomputable def xi100 := xiM 100 f100 52614059267903853659931206712331753740954083622903
theorem xk100 : TOK xi100 := tabOK1 func100 (by kernel_rfl) (by kernel_rfl) rfl rfl
noncomputable def cf100 : FnC := (.mk 52614059267903853659931206712331753740954083622903 166 qec (.seq (.rg (.op .no (.box 192 qa) qj q5d)) (.seq (.rg (.op .no (.alloc 285 [(.con (.slice Option.none 0 0)), (.con (.slice Option.none 0 0))]) q13 .fin)) (.seq (.rg (.op .no q3 q1b .fin)) (.seq (.seq (.rg (.op .no q9h .loc (.op .no q2f .loc (.op .no q78 .loc (.op .no q2f .loc (.op .no (.bsl 37 2 3 [qi, qc]) q7l qhd)))))) (.block 0 (.loop (.seq qhe (.seq (.cond q6l .skip q2c) (.seq (.block 1 (.seq (.rg (.op .no (.mv q6d) .loc (.op .no (.ias 3 q7n q6d) .loc qe2))) (.seq (.rg (.op .no q4s .loc (.op .no qe4 .loc (.op .no (.call (.lit (.clo 172 [])) [qt, qc]) .loc q8y)))) (.seq (.rg (.op .no (.ld 9 true qk) .loc (.op .no q34 .loc (.op .no (.gen (.convert 3 5 (.tmp 37)) (rfC 52614059267903853659931206712331753740954083622903 [37, 36])) .loc (.op .no q8n .loc (.op .no (.call (.lit (.clo 173 [])) [qf, qt, qc]) .loc (.op .no qu .loc (.op .no qw .loc (.op .no q11 .loc (.op .no qbw .loc (.op .no q5q qp (.op .no q74 q1y q6p)))))))))))) (.seq (.seq (.rg (.op .no q6q .loc (.op .no qa2 .loc (.op .no qu .loc (.op q1g (.fadr 7 qk) .loc (.op q1i qm .loc (.op q1k (.call (.lit (.clo 174 [])) [qc, (.lit (.clo 175 []))]) .loc (.op .no q4h q6r .fin)))))))) (.cond q6s (.seq qgk .ret) .skip)) (.seq (.rg (.op .no q34 .loc (.op .no q6o .loc (.op .no (.iaa 2 1 q1d qt) .loc qad)))) (.seq .skip (.seq (.rg (.op .no q5t q6u qhm)) (.block 2 (.loop (.seq qhn (.seq (.cond q7h .skip q9v) (.seq (.block 3 (.seq (.rg (.op .no (.mv q7e) .loc (.op .no (.ias 2 q6v q7e) .loc (.op .no q52 .loc (.op .no qho q3t (.op .no q5q q31 (.op .no (.st 2 q3v qc) .non .fin))))))) (.seq (.seq (.rg (.op .no q6o q7o (.op .no (.len q7p) q7q (.op .no q20 q7s .fin)))) (.block 4 (.loop (.seq (.rg (.op .no (.bin .lss 3 q7u q7r) qai .fin)) (.seq (.cond qaj .skip qa0) (.seq (.block 5 (.seq (.rg (.op .no (.ias 1 q7p q7u) .loc (.op .no qm .loc qcx))) (.seq (.rg (.op .no qa1 .loc (.op .no qhp .loc (.op .no qm .loc (.op .no qhq .loc (.op .no qu .loc (.op q2k qa1 .loc (.op q2m qhr .loc (.op q2n qm .loc (.op q2o q83 .loc (.op .no q8t qak .fin))))))))))) (.cond qal (.seq qhs q9v) .skip)))) (.rg (.op .no (.bin .add 3 q7u q35) .loc q7t)))))))) (.seq (.rg (.op .no q5t .loc (.op .no q9c .loc (.op .no (.gen (.slice 286 (.tmp 78) Option.none (Option.some (.tmp 79)) Option.none) (rfC 52614059267903853659931206712331753740954083622903 [79, 78])) qew (.op .no (.len qex) qey (.op .no q20 qf0 .fin)))))) (.block 6 (.loop (.seq (.rg (.op .no (.bin .lss 3 qf3 qez) qf1 .fin)) (.seq (.cond qf2 .skip (.exit 6)) (.seq (.block 7 (.seq (.rg (.op .no (.ias 2 qex qf3) .loc (.op .no q52 .loc (.op .no qho q49 (.op .no (.st 2 q4a qc) .non .fin))))) (.seq (.rg (.op .no qhp .loc (.op .no qm .loc (.op .no qht .loc (.op .no qm .loc (.op .no q83 .loc (.op .no qu .loc (.op q2k qht .loc (.op q2m qm .loc (.op q2n qhr .loc (.op q2o qm .loc (.op q8p q83 .loc (.op .no q8r .loc (.op .no qu .loc (.op q2k qhr .loc (.op q2m qm .loc (.op q2n qhu .loc (.op q2o qm .loc (.op q8p q83 .loc (.op .no q8r .loc (.op .no qu .loc (.op q1g qht .loc (.op q1i qm .loc (.op q1k qhp .loc (.op q1n qm .loc (.op q1q q83 .loc (.op q4k qu .loc (.op q2k qhp .loc (.op q2m qm .loc (.op q2n qhu .loc (.op q2o qm .loc (.op q8p q83 .loc (.op qdx q8r .loc (.op (.yes qdy false) qu .loc (.op q2k qhu .loc (.op q2m qm .loc (.op q2n qhr .loc (.op q2o qm .loc (.op q8p q83 .loc (.op (.yes (.loc q30) false) q8r .loc (.op .no (.pick (.loc (.s q30)) q1t qc) (.kep (.r q79)) .fin))))))))))))))))))))))))))))))))))))))))) (.cond (.kep (.r q79)) (.seq qhs q9v) .skip)))) (.rg (.op .no (.bin .add 3 qf3 q35) .loc (.op .no qu qf0 .fin)))))))))))) qhv))))))))))))) qhh)))))) (.seq (.seq (.rg (.op .no (.iaa 2 1 q1d q15) .loc (.op .no qm .loc (.op .no q1x (.kep (.l q7k)) (.op .no q20 (.kep (.r q7k)) .fin))))) (.block 8 (.loop (.seq (.rg (.op .no (.bin .lss 3 qhw (.kep (.l q7k))) (.kep (.l q65)) .fin)) (.seq (.cond (.kep (.l q65)) .skip (.exit 8)) (.seq (.block 9 (.seq (.rg (.op .no (.mv qhw) .loc q96)) (.seq (.rg (.op .no q75 (.kep (.r q65)) (.op .no q20 (.kep (.l q6b)) .fin))) (.block 10 (.loop (.seq (.rg (.op .no (.bin .lss 3 qhx (.kep (.r q65))) (.kep (.r q6b)) .fin)) (.seq (.cond (.kep (.r q6b)) .skip (.exit 10)) (.seq (.block 11 (.seq (.rg (.op .no (.mv qhx) .loc qaf)) (.seq (.rgd (.op .no qhy .loc (.op .no q5s .loc (.op .no (.soft q75) .loc (.op .no q88 .loc (.op .no q5s .loc (.op .no qhy .loc (.op .no q5s .loc (.op .no qag .loc (.op .no q88 .loc (.op .no q5s .loc (.op .no qi0 .loc (.op .no (.softw (.iaa 2 1 q1d q35) 1 (.indexAddr 285 (.tmp 5) (.const (.int .i64 (.ofNat 1)))) (rfR 52614059267903853659931206712331753740954083622903 [149, 148, 147, 146, 145, 144, 143, 142, 141, 140, 139] [5])) .loc (.op .no (.softw qm 1 (.load 38 (.tmp 150)) (rfR 52614059267903853659931206712331753740954083622903 [150, 149, 148, 147, 146, 145, 144, 143, 142, 141, 140, 139] [150])) .loc (.op .no (.soft q75) .loc (.op .no (.softw q87 1 (.indexAddr 38 (.tmp 151) (.tmp 152)) (rfR 52614059267903853659931206712331753740954083622903 [152, 151, 150, 149, 148, 147, 146, 145, 144, 143, 142, 141, 140, 139] [151, 152])) .loc (.op .no (.softw qm 1 (.load 3 (.tmp 153)) (rfR 52614059267903853659931206712331753740954083622903 [153, 152, 151, 150, 149, 148, 147, 146, 145, 144, 143, 142, 141, 140, 139] [153])) .loc (.op .no (.softw (.iaa 2 1 q1d q35) 1 (.indexAddr 285 (.tmp 5) (.const (.int .i64 (.ofNat 1)))) (rfR 52614059267903853659931206712331753740954083622903 [154, 153, 152, 151, 150, 149, 148, 147, 146, 145, 144, 143, 142, 141, 140, 139] [5])) .loc (.op .no (.softw qm 1 (.load 38 (.tmp 155)) (rfR 52614059267903853659931206712331753740954083622903 [155, 154, 153, 152, 151, 150, 149, 148, 147, 146, 145, 144, 143, 142, 141, 140, 139] [155])) .loc (.op .no qag .loc (.op .no (.softw q87 1 (.indexAddr 38 (.tmp 156) (.tmp 157)) (rfR 52614059267903853659931206712331753740954083622903 [157, 156, 155, 154, 153, 152, 151, 150, 149, 148, 147, 146, 145, 144, 143, 142, 141, 140, 139] [156, 157])) .loc (.op .no (.softw qm 1 (.load 3 (.tmp 158)) (rfR 52614059267903853659931206712331753740954083622903 [158, 157, 156, 155, 154, 153, 152, 151, 150, 149, 148, 147, 146, 145, 144, 143, 142, 141, 140, 139] [158])) .loc (.op .no qi0 .loc (.op .no (.soft (.bin .mul 3 qbl qc)) .loc (.op .no qi1 (.kep (.l q6i)) .fin)))))))))))))))))))))))) 0) (.cond (.kep (.l q6i)) qhs .skip)))) (.rg (.op .no (.bin .add 3 qhx q35) .loc (.op .no qu (.kep (.l q6b)) .fin))))))))))) (.rg (.op .no (.bin .add 3 qhw q35) .loc (.op .no qu (.kep (.r q7k)) .fin))))))))) (.seq (.seq (.rg (.op .no q1m (.kep (.r q6i)) .fin)) (.cond (.kep (.r q6i)) (.seq (.rg (.op .no (.mv q7v) qz .fin)) .ret) .skip)) (.seq (.rg q5d) .ret))))))))
theorem ck100 : compF Tryz.prog xi100 = some cf100 := by kernel_rfl
noncomputable def xi101 := xiM 101 f101 68722623487
theorem xk101 : TOK xi101 := tabOK1 func101 (by kernel_rfl) (by kernel_rfl) rfl rfl
noncomputable def cf101 : FnC := (.mk 68722623487 42 qi3 (.seq (.rg (.op .no q4d qj (.op .no (.box 195 q0) qz (.op .no qd1 q13 .fin)))) (.seq (.rgd (.op .no qi5 .loc (.op .no q5s .loc (.op .no (.soft q9q) .loc (.op .no q5s .loc (.op .no (.soft (.gen (.call (Call.mk (Callee.builtin Builtin.min) (Array.mk [(.tmp 11), (.tmp 13)]) (Array.mk [3, 3]))) (rfR 68722623487 [13, 12, 11, 10] [11, 13]))) .loc (.op .no qi5 .loc (.op .no q5s .loc (.op .no (.soft q9q) .loc (.op .no q5s .loc (.op .no (.soft (.gen (.call (Call.mk (Callee.builtin Builtin.max) (Array.mk [(.tmp 16), (.tmp 18)]) (Array.mk [3, 3]))) (rfR 68722623487 [18, 17, 16, 15, 14, 13, 12, 11, 10] [16, 18]))) .loc (.op .no (.soft (.mv q1s)) q1b q8i))))))))))) 0) (.seq (.seq qi6 (.block 0 (.loop (.seq (.rg (.op .no (.bin .lss 5 q1z qbk) q2a .fin)) (.seq q2d (.seq (.block 1 (.seq (.rg (.op .no q6o .loc q39)) (.seq (.rg (.op .no qi7 .loc (.op .no q1m .loc (.op .no q28 .loc (.op .no qi8 .loc qi9))))) (.seq (.rg (.op .no q5t .loc (.op .no q3c .loc (.op .no qu .loc (.op q2k q8n .loc (.op q2m q34 .loc (.op q2n (.bin .eql 3 qt qc) .loc (.op .no q2s q31 .fin)))))))) (.cond q32 (.seq (.rg (.op .no q1m .loc (.op .no q28 .loc (.op .no qia .loc qic)))) .ret) .skip))))) (.rg (.op .no (.bin .add 5 q1z qg) .loc q6n)))))))) (.seq (.rg (.op .no qid .loc qic)) .ret)))))
theorem ck101 : compF Tryz.prog xi101 = some cf101 := by kernel_rfl
noncomputable def xi102 := xiM 102 f102 1055
theorem xk102 : TOK xi102 := tabOK1 func102 (by kernel_rfl) (by kernel_rfl) rfl rfl
noncomputable def cf102 : FnC := (.mk 1055 11 qfv (.seq (.rg (.op .no (.box 94 qa) qj (.op .no (.box 195 q0) qz qfw))) (.seq (.seq (.rg (.op .no (.fadr 7 qk) .loc (.op .no qm .loc (.op .no q9q .loc (.op .no qm .loc (.op .no q19 .loc qcl)))))) (.cond q1l qg5 .skip)) qh2)))
theorem ck102 : compF Tryz.prog xi102 = some cf102 := by kernel_rfl
noncomputable def xi106 := xiM 106 f106 31
theorem xk106 : TOK xi106 := tabOK1 func106 (by kernel_rfl) (by kernel_rfl) rfl rfl
noncomputable def cf106 : FnC := (.mk 31 24 qfv (.seq qif (.seq (.rg (.op .no qg3 .loc (.op .no qm .loc (.op .no qi4 .loc (.op .no qm .loc (.op .no qig .loc (.op .no q9h .loc (.op .no qm .loc (.op .no q1v .loc (.op .no qm .loc (.op .no qig .loc (.op .no qih .loc (.op .no qm .loc (.op .no (.gen (.convert 5 3 (.tmp 16)) (rfC 31 [16, 15, 14, 13, 12, 11, 10, 9, 8, 7, 6, 5])) .loc (.op .no q9q .loc (.op .no qm .loc (.op .no (.gen (.convert 5 3 (.tmp 19)) (rfC 31 [19, 18, 17, 16, 15, 14, 13, 12, 11, 10, 9, 8, 7, 6, 5])) .loc (.op .no qii .loc (.op .no (.bsl 291 3 2 [qdy, q2q, qc]) .loc (.op .no (.call (.lit (.clo 179 [])) [qc]) .loc q3l)))))))))))))))))))) .ret)))
theorem ck106 : compF Tryz.prog xi106 = some cf106 := by kernel_rfl
noncomputable def xi110 := xiM 110 f110 9445021196373681520639
theorem xk110 : TOK xi110 := tabOK1 func110 (by kernel_rfl) (by kernel_rfl) rfl rfl
noncomputable def cf110 : FnC := (.mk 9445021196373681520639 78 (.many [qbo, q62, q8v]) (.seq (.rg (.op .no qbq qj (.op .no qbr qz (.op .no q8x q13 (.op .no q8x q1b q23))))) (.seq (.seq (.rg (.op .no qbt .loc (.op .no qij .loc q39))) (.seq (.rg (.op .no q28 .loc qik)) (.cond q3y (.seq (.rg (.op .no q28 .loc qil)) .ret) .skip))) (.seq (.seq (.rg (.op .no qbu .loc (.op .no qcs .loc (.op .no q1f q49 .fin)))) (.cond q4a (.seq (.rg (.op .no q8x q13 (.op .no q8x q1b (.op .no q4n q22 .fin)))) .ret) .skip)) (.seq (.rg (.op .no qbt .loc (.op .no (.call (.lit (.clo 182 [])) [qc]) .loc qi9))) (.seq (.seq (.rg (.op .no q5t .loc (.op .no q1f q5l .fin))) (.cond q5n qim .skip)) (.seq (.rg (.op .no q8n .loc (.op .no q1x .loc (.op .no (.gen (.makeSlice 46 (.tmp 32) (.tmp 32)) (rfC 9445021196373681520639 [32, 31])) .loc q6n)))) (.seq (.seq (.rg (.op .no q8n q7a q98)) (.block 0 (.loop (.seq q99 (.seq (.cond q6d .skip q2c) (.seq (.block 1 (.seq (.rg (.op .no (.mv q67) .loc (.op .no (.ias 3 q7b q67) .loc (.op .no q2f .loc (.op .no q70 q31 (.op .no q5q q2a (.op .no (.st 3 q32 qc) .non .fin))))))) (.seq (.rg (.op .no q9h .loc (.op .no q52 .loc (.op .no q6q .loc (.op .no qd3 .loc (.op .no qu .loc (.op .no qw .loc (.op .no q11 .loc (.op .no q8k q3t (.op .no (.st 3 q3v qt) .non q71)))))))))) (.seq (.seq (.rg (.op .no q8n .loc (.op .no q6q .loc (.op .no (.ld 3 true q32) .loc (.op .no qbu .loc (.op .no q7f .loc (.op .no qu .loc (.op .no qw .loc (.op .no q11 .loc (.op .no (.ias 3 q2q q4l) .loc (.op .no (.st 3 qc qi) .non (.op .no q74 qp .fin)))))))))))) (.seq q6k (.cond q6l qim .skip))) (.seq (.rgd (.op .no q9s .loc (.op .no qgy .loc (.op .no qfd .loc (.op .no q9p .loc (.op .no qin .loc (.op .no qio .loc (.op .no q72 .loc (.op .no qgy .loc (.op .no qip .loc (.op .no qx .loc (.op .no (.soft (.ias 3 qf qi)) .loc (.op .no (.hard q9x) .non (.op .no q8h .loc (.op .no qv qp .fin)))))))))))))) 0) (.seq (.rg (.op .no q5t .loc (.op .no q1f q6r .fin))) (.cond q6s qim .skip))))))) q9e)))))) (.seq (.rg (.op .no q8n .loc (.op .no q6o .loc (.op .no q74 q13 (.op .no qu q1b q23))))) .ret)))))))))
theorem ck110 : compF Tryz.prog xi110 = some cf110 := by kernel_rfl
noncomputable def xi111 := xiM 111 f111 504373101
theorem xk111 : TOK xi111 := tabOK1 func111 (by kernel_rfl) (by kernel_rfl) rfl rfl
noncomputable def cf111 : FnC := (.mk 504373101 36 q1 (.seq qbn (.seq q4b (.seq qiq (.seq (.rg (.op .no q80 .loc (.op .no (.call (.lit (.clo 183 [])) [q6g, qc]) .loc q3l))) (.seq (.seq qct (.block 2 (.loop (.seq q3x (.seq (.cond q3y .skip q9v) (.seq (.block 3 (.seq qir (.rg (.op .no q1e .loc (.op .no q1m .loc (.op .no qgj .loc q3l)))))) q45)))))) qis))))))
theorem ck111 : compF Tryz.prog xi111 = some cf111 := by kernel_rfl
noncomputable def xi112 := xiM 112 f112 7
theorem xk112 : TOK xi112 := tabOK1 func112 (by kernel_rfl) (by kernel_rfl) rfl rfl
noncomputable def cf112 : FnC := (.mk 7 10 (.one (.cell 4 true qk)) (.seq (.rg (.op .no qit q4 (.op .no q9n qj .fin))) (.seq (.rgd (.op .no (.soft qas) .loc (.op .no q5s .loc (.op .no (.hard qiu) .loc (.op .no (.hard q9f) .loc (.op .no qfs .loc (.op .no (.softw q2f 2 (.load 37 (.tmp 3)) (rfR 7 [3, 8, 7, 6, 5] [3])) .loc (.op .no (.soft (.bld [(.mk 0 3 qc), (.mk 3 1 qi)] [(.int .i64 (.ofNat 0)), (.int .i64 (.ofNat 0)), (.int .u8 (.ofNat 0)), (.con (.slice Option.none 0 0))])) .loc (.op .no (.hard (.st 4 qk qc)) .non .fin)))))))) 0) .ret)))
theorem ck112 : compF Tryz.prog xi112 = some cf112 := by kernel_rfl
noncomputable def xi113 := xiM 113 f113 19
theorem xk113 : TOK xi113 := tabOK1 func113 (by kernel_rfl) (by kernel_rfl) rfl rfl
noncomputable def cf113 : FnC := (.mk 19 14 qb3 (.seq qiv (.rg (.op .no qb .loc (.op .no q80 .loc (.op .no q80 .loc (.op .no qiw .loc (.op .no qix .loc (.op .no q4s .loc (.op .no (.call qiy [q1s, q15, q1p, qt, qc]) .loc .fin))))))))))
theorem ck113 : compF Tryz.prog xi113 = some cf113 := by kernel_rfl
noncomputable def xi114 := xiM 114 f114 31
theorem xk114 : TOK xi114 := tabOK1 func114 (by kernel_rfl) (by kernel_rfl) rfl rfl
noncomputable def cf114 : FnC := (.mk 31 10 qfv (.seq (.rg (.op .no qit qj (.op .no (.box 40 q0) qz q4w))) (.seq (.rg (.op .no q9h .loc (.op .no q2f .loc (.op .no q1v .loc (.op .no q2f .loc (.op .no qiz .loc q3l)))))) .ret)))
theorem ck114 : compF Tryz.prog xi114 = some cf114 := by kernel_rfl
noncomputable def xi115 := xiM 115 f115 5
theorem xk115 : TOK xi115 := tabOK1 func115 (by kernel_rfl) (by kernel_rfl) rfl rfl
noncomputable def cf115 : FnC := (.mk 5 9 q1 (.seq qbn (.seq (.rg (.op .no qb .loc (.op .no qb .loc (.op .no q1x .loc (.op .no qb .loc (.op .no q1x .loc (.op .no (.gen (.slice 32 (.tmp 3) Option.none (Option.some (.tmp 5)) (Option.some (.tmp 7))) (rfC 5 [7, 6, 5, 4, 3])) .loc q3e))))))) .ret)))
theorem ck115 : compF Tryz.prog xi115 = some cf115 := by kernel_rfl
noncomputable def xi116 := xiM 116 f116 21
theorem xk116 : TOK xi116 := tabOK1 func116 (by kernel_rfl) (by kernel_rfl) rfl rfl
noncomputable def cf116 : FnC := (.mk 21 8 q1 (.seq qbn (.seq (.seq (.rg (.op .no qb .loc (.op .no (.bin .eql 32 qc q6g) qj .fin))) qj0) (.seq (.rg (.op .no (.bsl 40 0 4 []) .loc (.op .no qb .loc (.op .no qgj .loc q3e)))) .ret))))
theorem ck116 : compF Tryz.prog xi116 = some cf116 := by kernel_rfl
noncomputable def xi118 := xiM 118 f118 5
theorem xk118 : TOK xi118 := tabOK1 func118 (by kernel_rfl) (by kernel_rfl) rfl rfl
noncomputable def cf118 : FnC := (.mk 5 9 q1 (.seq qbn (.seq (.rg (.op .no qb .loc (.op .no qb .loc (.op .no q1x .loc (.op .no qb .loc (.op .no q1x .loc (.op .no (.gen (.slice 27 (.tmp 3) Option.none (Option.some (.tmp 5)) (Option.some (.tmp 7))) (rfC 5 [7, 6, 5, 4, 3])) .loc q3e))))))) .ret)))
theorem ck118 : compF Tryz.prog xi118 = some cf118 := by kernel_rfl
noncomputable def xi119 := xiM 119 f119 21
theorem xk119 : TOK xi119 := tabOK1 func119 (by kernel_rfl) (by kernel_rfl) rfl rfl
noncomputable def cf119 : FnC := (.mk 21 8 q1 (.seq qbn (.seq (.seq (.rg (.op .no qb .loc (.op .no (.bin .eql 27 qc q6g) qj .fin))) qj0) (.seq (.rg (.op .no (.bsl 84 0 3 []) .loc (.op .no qb .loc (.op .no (.app 27 84 3 16 qt qc) .loc q3e)))) .ret))))
theorem ck119 : compF Tryz.prog xi119 = some cf119 := by kernel_rfl
noncomputable def xi120 := xiM 120 f120 568328959
theorem xk120 : TOK xi120 := tabOK1 func120 (by kernel_rfl) (by kernel_rfl) rfl rfl
noncomputable def cf120 : FnC := (.mk 568328959 31 qbp (.seq (.rg (.op .no qcj qj (.op .no q7y qz qd2))) (.seq (.rg (.op .no qbu .loc (.op .no (.call (.lit (.clo 186 [])) [qc]) .loc (.op .no qu .loc (.op .no qw .loc (.op .no q11 .loc (.op .no (.alloc 303 [(.int .i64 (.ofNat 0)), (.int .i64 (.ofNat 0)), (.int .i64 (.ofNat 0)), (.int .i64 (.ofNat 0)), (.int .i64 (.ofNat 0)), (.int .i64 (.ofNat 0))]) q22 (.op .no (.st 6 q33 qt) .non q39)))))))) (.seq (.seq (.rg (.op .no q28 .loc (.op .no q1f .loc (.op .no qu .loc (.op q1g qi7 .loc (.op q1i q92 .loc (.op q1k q1f .loc (.op .no q4h qp .fin)))))))) (.cond qq qd8 .skip)) (.seq (.seq (.rg (.op .no (.ld 6 true q33) q1y qb8)) (.block 0 (.loop (.seq (.rg (.op .no (.bin .lss 3 q2b q17) q31 .fin)) (.seq qc0 (.seq (.block 1 (.seq (.rg (.op .no (.gen (.index 303 (.tmp 22) (.tmp 23)) (rfC 568328959 [])) .loc (.op .no qj1 q2h qeg))) (.seq (.rg (.op .no qi7 .loc (.op .no (.ld 2 true q2i) .loc (.op .no (.call (.lit (.clo 187 [])) [qt, qc]) .loc (.op .no qdu q3t .fin))))) (.cond q3v (.seq (.rg (.op .no q4n q13 q63)) .ret) .skip)))) qbg)))))) (.seq (.rg qd2) .ret))))))
theorem ck120 : compF Tryz.prog xi120 = some cf120 := by kernel_rfl
noncomputable def xi121 := xiM 121 f121 33554439
theorem xk121 : TOK xi121 := tabOK1 func121 (by kernel_rfl) (by kernel_rfl) rfl rfl
noncomputable def cf121 : FnC := (.mk 33554439 26 q3f (.seq (.rg (.op .no qg7 q4 q3h)) (.seq (.seq (.rg (.op .no q3s .loc (.op .no qm .loc (.op .no (.gen (.convert 5 3 (.tmp 4)) (rfC 33554439 [4, 3])) .loc (.op .no (.bin .geq 3 qc qj2) .loc (.op .no qu .loc (.op q1g q4g .loc (.op q1i qm .loc (.op q1k qj3 .loc (.op .no q4h .loc (.op .no qu .loc (.op q1g qce .loc (.op q1i qm .loc (.op q1k qj3 .loc (.op .no q4h .loc (.op .no qu .loc (.op q1g q4g .loc (.op q1i qm .loc (.op q1k qce .loc (.op q1n qm .loc (.op q1q qg1 .loc (.op q4k (.bin .rem 3 qc q8) .loc (.op qfr qdq .loc (.op .no (.pick q2q q1t qc) qz .fin)))))))))))))))))))))))) q4q) q4c)))
theorem ck121 : compF Tryz.prog xi121 = some cf121 := by kernel_rfl
noncomputable def xi122 := xiM 122 f122 19
theorem xk122 : TOK xi122 := tabOK1 func122 (by kernel_rfl) (by kernel_rfl) rfl rfl
noncomputable def cf122 : FnC := (.mk 19 9 q3f (.seq qj5 (.seq (.rg (.op .no qb .loc (.op .no q4s .loc (.op .no qf6 .loc qj6)))) .ret)))
theorem ck122 : compF Tryz.prog xi122 = some cf122 := by kernel_rfl
noncomputable def xi123 := xiM 123 f123 7
theorem xk123 : TOK xi123 := tabOK1 func123 (by kernel_rfl) (by kernel_rfl) rfl rfl
noncomputable def cf123 : FnC := (.mk 7 7 q3f (.seq (.rg (.op .no qit q4 qj4)) (.seq (.rg (.op .no q3s .loc (.op .no q2f .loc (.op .no qj7 .loc (.op .no q1f .loc q3n))))) .ret)))
theorem ck123 : compF Tryz.prog xi123 = some cf123 := by kernel_rfl
noncomputable def xi124 := xiM 124 f124 33554439
theorem xk124 : TOK xi124 := tabOK1 func124 (by kernel_rfl) (by kernel_rfl) rfl rfl
noncomputable def cf124 : FnC := (.mk 33554439 26 q3f (.seq (.rg (.op .no qie q4 q3h)) (.seq (.seq (.rg (.op .no q3s .loc (.op .no qm .loc (.op .no qfi .loc (.op .no qu .loc (.op q1g q3s .loc (.op q1i qm .loc (.op q1k qfj .loc (.op .no q4h .loc (.op .no qu .loc (.op q1g q4g .loc (.op q1i qm .loc (.op q1k qfi .loc (.op .no q4h .loc (.op .no qu .loc (.op q1g q4g .loc (.op q1i qm .loc (.op q1k qfj .loc (.op .no q4h .loc (.op .no qu .loc (.op q1g qce .loc (.op q1i qm .loc (.op q1k (.bin .gtr 5 qc qbk) .loc qfk))))))))))))))))))))))) q4q) q4c)))
theorem ck124 : compF Tryz.prog xi124 = some cf124 := by kernel_rfl
noncomputable def xi125 := xiM 125 f125 2113663
theorem xk125 : TOK xi125 := tabOK1 func125 (by kernel_rfl) (by kernel_rfl) rfl rfl
noncomputable def cf125 : FnC := (.mk 2113663 24 qj8 (.seq (.rg (.op .no qg7 qj (.op .no q7y qz (.op .no q8k q13 q63)))) (.seq (.seq (.rg (.op .no qbt .loc (.op .no qcs .loc (.op .no q1f .loc (.op .no qu .loc (.op q1g qbu .loc (.op q1i qj7 .loc (.op q1k q1f .loc (.op .no q4h q24 .fin))))))))) (.cond q27 (.seq (.rg (.op .no q1j .loc (.op .no qbc .non q8a))) .ret) .skip)) (.seq (.rg (.op .no qbt .loc (.op .no qbu .loc (.op .no (.call (.lit (.clo 189 [])) [qt, qc]) .loc (.op .no q8k q22 qfa))))) (.seq (.seq (.rg (.op .no qd6 .loc (.op .no qj7 .loc qb1))) (.cond q2i (.seq (.rg (.op .no q1j .loc (.op .no qbc .non q7i))) .ret) .skip)) (.seq (.rg (.op .no qd6 .loc (.op .no qbc .non q63))) .ret))))))
theorem ck125 : compF Tryz.prog xi125 = some cf125 := by kernel_rfl
noncomputable def xi126 := xiM 126 f126 3
theorem xk126 : TOK xi126 := tabOK1 func126 (by kernel_rfl) (by kernel_rfl) rfl rfl
noncomputable def cf126 : FnC := (.mk 3 9 qb3 (.rg (.op .no qb .loc (.op .no qb .loc (.op .no q1x .loc (.op .no q4s .loc (.op .no (.call (.lit (.clo 190 [])) [qf, qt, qc]) .loc .fin)))))))
theorem ck126 : compF Tryz.prog xi126 = some cf126 := by kernel_rfl
noncomputable def xi127 := xiM 127 f127 31
theorem xk127 : TOK xi127 := tabOK1 func127 (by kernel_rfl) (by kernel_rfl) rfl rfl
noncomputable def cf127 : FnC := (.mk 31 10 qfv (.seq (.rg (.op .no qit qj (.op .no (.box 40 q0) qz q4w))) (.seq (.rg (.op .no q9h .loc (.op .no q2f .loc (.op .no q1v .loc (.op .no q2f .loc (.op .no qiz .loc q3l)))))) .ret)))
theorem ck127 : compF Tryz.prog xi127 = some cf127 := by kernel_rfl
noncomputable def xi128 := xiM 128 f128 525
theorem xk128 : TOK xi128 := tabOK1 func128 (by kernel_rfl) (by kernel_rfl) rfl rfl
noncomputable def cf128 : FnC := (.mk 525 28 qb3 (.seq (.rg (.op .no qb .loc (.op .no q1x .loc (.op .no q9t .loc (.op .no q20 q4 q3n))))) (.block 0 (.loop (.seq (.seq (.rg (.op .no q4s .loc (.op .no q80 .loc (.op .no qdk qz .fin)))) (.cond q10 .skip q2c)) (.seq (.block 1 (.rgd (.op .no qfg .loc (.op .no qbf .loc (.op .no qfg .loc (.op .no q89 .loc (.op .no q88 .loc (.op .no q5s .loc (.op .no qfg .loc (.op .no qbf .loc (.op .no q88 .loc (.op .no q5s .loc (.op .no (.soft (.ias 1 qap q2u)) .loc (.op .no qj9 .non (.op .no qfg .loc (.op .no q89 .loc (.op .no q88 .loc qa9))))))))))))))) 0)) (.rg (.op .no q4s .loc (.op .no q36 .loc (.op .no q80 .loc (.op .no q9t .loc (.op .no q5q q4 q3n))))))))))))
theorem ck128 : compF Tryz.prog xi128 = some cf128 := by kernel_rfl
noncomputable def xi133 := xiM 133 f133 7
theorem xk133 : TOK xi133 := tabOK1 func133 (by kernel_rfl) (by kernel_rfl) rfl rfl
noncomputable def cf133 : FnC := (.mk 7 11 q3f (.seq (.rg (.op .no qg7 q4 qj4)) (.seq (.rg (.op .no qch .loc (.op .no qcs .loc (.op .no q3c .loc (.op .no qu .loc (.op q2k q3s .loc (.op q2m qm .loc (.op q2n (.bin .geq 5 qc q6) .loc (.op .no q2s .loc q3n))))))))) .ret)))
theorem ck133 : compF Tryz.prog xi133 = some cf133 := by kernel_rfl
noncomputable def xi134 := xiM 134 f134 19
theorem xk134 : TOK xi134 := tabOK1 func134 (by kernel_rfl) (by kernel_rfl) rfl rfl
noncomputable def cf134 : FnC := (.mk 19 14 qb3 (.seq qiv (.rg (.op .no qb .loc (.op .no q80 .loc (.op .no q80 .loc (.op .no qiw .loc (.op .no qix .loc (.op .no q4s .loc (.op .no (.call qja [q1s, q15, q1p, qt, qc]) .loc .fin))))))))))
theorem ck134 : compF Tryz.prog xi134 = some cf134 := by kernel_rfl
noncomputable def xi136 := xiM 136 f136 604275
theorem xk136 : TOK xi136 := tabOK1 func136 (by kernel_rfl) (by kernel_rfl) rfl rfl
noncomputable def cf136 : FnC := (.mk 604275 20 q3f (.seq q4b (.seq (.rg (.op .no qb .loc (.op .no qjb .loc q5g))) (.seq (.rg (.op .no q4s .loc (.op .no qjb .loc q3l))) (.seq qdi (.seq qdj (.seq (.seq (.rg (.op .no qb .loc (.op .no q4s .loc (.op .no (.bin .lss 5 qt qc) q2h .fin)))) (.cond q2i qdh .skip)) (.seq (.seq (.rg (.op .no qb .loc (.op .no q4s .loc (.op .no (.bin .gtr 5 qt qc) qp .fin)))) qdn) q4c))))))))
theorem ck136 : compF Tryz.prog xi136 = some cf136 := by kernel_rfl
noncomputable def xi139 := xiM 139 f139 1074036687
theorem xk139 : TOK xi139 := tabOK1 func139 (by kernel_rfl) (by kernel_rfl) rfl rfl
noncomputable def cf139 : FnC := (.mk 1074036687 43 (.many [qi2, q62, q8v, (.tmp q27)]) (.seq (.rg (.op .no qbq qz (.op .no qd1 q13 (.op .no q20 q1b (.op .no q3 q22 q25))))) (.seq (.seq (.rg (.op .no qbu .loc (.op .no qij .loc q8y))) (.seq q90 (.cond q3v (.seq (.rg (.op .no qid .loc (.op .no q8n .loc qjc))) .ret) .skip))) (.seq (.rg (.op .no q1v .loc (.op .no q52 .loc (.op .no q4s .loc (.op .no q80 .loc (.op .no qjd .loc (.op .no qu .loc (.op .no qw .loc (.op .no q11 .loc (.op .no qd1 qp (.op .no (.st 2 qq qt) .non q6n))))))))))) (.seq (.seq (.rg (.op .no q6o .loc qik)) (.cond q3y (.seq (.rg (.op .no qid .loc (.op .no q6o .loc qjc))) .ret) .skip)) (.seq (.rg (.op .no q9q .loc (.op .no qm .loc (.op .no (.ld 2 true qq) .loc (.op .no (.call (.lit (.clo 195 [])) [qt, qc]) .loc qje))))) (.seq (.rg (.op .no (.ld 2 true qq) .loc (.op .no q6q .loc (.op .no q9c .loc (.op .no (.st 2 q1d qi) .non (.op .no q74 q1b (.op .no qu q22 q25))))))) .ret)))))))
theorem ck139 : compF Tryz.prog xi139 = some cf139 := by kernel_rfl
noncomputable def xi140 := xiM 140 f140 66679
theorem xk140 : TOK xi140 := tabOK1 func140 (by kernel_rfl) (by kernel_rfl) rfl rfl
noncomputable def cf140 : FnC := (.mk 66679 21 qef (.seq (.rg (.op .no q4d qj (.op .no q8k qz q4w))) (.seq (.seq (.rg (.op .no qi7 .loc (.op .no qjf .loc q1c))) (.seq (.rg (.op .no q1m .loc (.op .no q1f q22 .fin))) (.cond q33 (.seq (.rg (.op .no q1j .loc (.op .no q1m .loc (.op .no qes .non q3l)))) .ret) .skip))) (.seq (.seq (.rg (.op .no qi7 .loc (.op .no q4s .loc (.op .no (.call (.lit (.clo 196 [])) [qt, qc]) .loc (.op .no qa2 q24 .fin))))) (.cond q27 (.seq (.rg (.op .no q1j .loc (.op .no qca .non (.op .no (.mv q6x) q13 .fin)))) .ret) .skip)) (.seq (.rg (.op .no qi7 .loc (.op .no q4s .loc (.op .no (.call (.lit (.clo 197 [])) [qt, qc]) .loc (.op .no qca .non q4w))))) .ret)))))
theorem ck140 : compF Tryz.prog xi140 = some cf140 := by kernel_rfl
noncomputable def xi142 := xiM 142 f142 274877908095
theorem xk142 : TOK xi142 := tabOK1 func142 (by kernel_rfl) (by kernel_rfl) rfl rfl
noncomputable def cf142 : FnC := (.mk 274877908095 52 qbp (.seq (.rg (.op .no q4d qj (.op .no q7y qz qd2))) (.seq (.seq qjg (.seq (.rg (.op .no q34 .loc (.op .no q1f q24 .fin))) (.cond q27 (.seq (.rg (.op .no q34 .loc qd5)) .ret) .skip))) (.seq (.seq (.rg (.op .no qbu .loc (.op .no qj7 .loc (.op .no q1f .loc (.op .no qu .loc (.op q1g q1v .loc (.op q1i qm .loc (.op q1k q95 .loc (.op .no q4h .loc (.op .no qu .loc (.op q1g q1v .loc (.op q1i qm .loc (.op q1k q9h .loc (.op q1n qm .loc (.op q1q qjh .loc (.op .no q1u .loc (.op .no qu .loc (.op q1g qi4 .loc (.op q1i qm .loc (.op q1k q95 .loc (.op .no q4h .loc (.op .no qu .loc (.op q1g qi4 .loc (.op q1i qm .loc (.op q1k qg3 .loc (.op q1n qm .loc (.op q1q qjh .loc (.op .no q1u q2h .fin)))))))))))))))))))))))))))) (.cond q2i (.seq (.rg (.op .no q20 q13 q6y)) .ret) .skip)) (.seq (.rg (.op .no qi4 .loc (.op .no qm .loc (.op .no q9h .loc (.op .no qm .loc (.op .no q4j .loc (.op .no q1v .loc (.op .no qm .loc (.op .no qg1 .loc (.op .no q4x .loc (.op .no q9q .loc (.op .no qm .loc (.op .no (.gen (.convert 5 3 (.tmp 49)) (rfC 274877908095 [49, 48, 47, 46, 45, 44, 43, 42, 41, 40, 39])) .loc (.op .no qji .loc qcy)))))))))))))) .ret)))))
theorem ck142 : compF Tryz.prog xi142 = some cf142 := by kernel_rfl
noncomputable def xi144 := xiM 144 f144 5
theorem xk144 : TOK xi144 := tabOK1 func144 (by kernel_rfl) (by kernel_rfl) rfl rfl
noncomputable def cf144 : FnC := (.mk 5 8 q1 (.seq qd9 (.seq (.cond q2 (.seq (.rg (.op .no qb .loc (.op .no (.gen (.convert 250 322 (.tmp 3)) (rfC 5 [3])) .loc (.op .no (.call (.lit (.clo 206 [])) [qc]) .loc q3e)))) .ret) .skip) (.seq (.rg (.op .no qb .loc (.op .no (.call (.lit (.clo 207 [])) [qc]) .loc q3e))) .ret))))
theorem ck144 : compF Tryz.prog xi144 = some cf144 := by kernel_rfl
noncomputable def xi146 := xiM 146 f146 5
theorem xk146 : TOK xi146 := tabOK1 func146 (by kernel_rfl) (by kernel_rfl) rfl rfl
noncomputable def cf146 : FnC := (.mk 5 6 q1 (.seq q5 (.seq (.rg (.op .no qb .loc (.op .no qb .loc (.op .no qdc .loc q3e)))) .ret)))
theorem ck146 : compF Tryz.prog xi146 = some cf146 := by kernel_rfl
noncomputable def xi147 := xiM 147 f147 383
theorem xk147 : TOK xi147 := tabOK1 func147 (by kernel_rfl) (by kernel_rfl) rfl rfl
noncomputable def cf147 : FnC := (.mk 383 18 qbp (.seq qbs (.seq qcw qbx)))
theorem ck147 : compF Tryz.prog xi147 = some cf147 := by kernel_rfl
noncomputable def xi148 := xiM 148 f148 19
theorem xk148 : TOK xi148 := tabOK1 func148 (by kernel_rfl) (by kernel_rfl) rfl rfl
noncomputable def cf148 : FnC := (.mk 19 9 q3f (.seq qj5 (.seq (.rg (.op .no qb .loc (.op .no q4s .loc (.op .no qjj .loc qj6)))) .ret)))
theorem ck148 : compF Tryz.prog xi148 = some cf148 := by kernel_rfl
noncomputable def xi149 := xiM 149 f149 23
theorem xk149 : TOK xi149 := tabOK1 func149 (by kernel_rfl) (by kernel_rfl) rfl rfl
noncomputable def cf149 : FnC := (.mk 23 14 qec (.seq (.rg qjk) (.seq (.rgd (.op .no (.soft (.fadr 9 q0)) .loc (.op .no q5s .loc (.op .no qfg .loc (.op .no q88 .loc (.op .no q5s .loc (.op .no (.soft qih) .loc (.op .no q5s .loc (.op .no (.soft (.gen (.convert 5 3 (.tmp 11)) (rfR 23 [11, 10, 9, 8, 7, 6, 5] [11]))) .loc (.op .no qjl .loc q8g))))))))) 0) .ret)))
theorem ck149 : compF Tryz.prog xi149 = some cf149 := by kernel_rfl
noncomputable def xi150 := xiM 150 f150 984559
theorem xk150 : TOK xi150 := tabOK1 func150 (by kernel_rfl) (by kernel_rfl) rfl rfl
noncomputable def cf150 : FnC := (.mk 984559 27 q7x (.seq (.rg (.op .no qe6 qz (.op .no (.box 257 qk) q13 qfm))) (.seq (.rg (.op .no qb7 .loc (.op .no qm .loc (.op .no q1x .loc (.op .no (.gen (.makeSlice 91 (.tmp 13) (.tmp 13)) (rfC 984559 [13, 12, 11])) .loc (.op .no (.alloc 91 [(.con (.slice Option.none 0 0))]) q22 q3r)))))) (.seq (.rg (.op .no (.alloc 326 [(.con .nilFunc)]) q24 .fin)) (.seq (.rg (.op .no (.gen (.makeFunc (Fn.func 209) (Array.mk []) (Array.mk [(.tmp 7), (.tmp 3), (.tmp 5), (.tmp 8)])) (rfC 984559 [])) .loc q5i)) (.seq (.seq (.rg (.op .no q4s qp qb9)) (.block 0 (.loop (.seq qba (.seq qc0 (.seq (.block 1 (.seq (.rg (.op .no (.ias 1 qq q2b) .loc (.op .no qm .loc q8y))) (.rg (.op .no (.ld 1 false q27) .loc (.op .no q8n .loc qjm))))) qbg)))))) (.seq (.rg (.op .no (.ld 1 false q33) .loc q1c)) .ret)))))))
theorem ck150 : compF Tryz.prog xi150 = some cf150 := by kernel_rfl
noncomputable def xi151 := xiM 151 f151 143
theorem xk151 : TOK xi151 := tabOK1 func151 (by kernel_rfl) (by kernel_rfl) rfl rfl
noncomputable def cf151 : FnC := (.mk 143 19 qfv (.seq qjn (.seq (.rgd (.op .no (.soft (.fadr 9 q10)) .loc (.op .no q5s .loc (.op .no q89 .loc (.op .no q88 .loc (.op .no q5s .loc (.op .no (.soft (.fadr 9 q10)) .loc (.op .no q5s .loc (.op .no qfg .loc (.op .no q88 .loc (.op .no q5s .loc (.op .no qh4 .loc q14))))))))))) 0) .ret)))
theorem ck151 : compF Tryz.prog xi151 = some cf151 := by kernel_rfl
noncomputable def xi152 := xiM 152 f152 31
theorem xk152 : TOK xi152 := tabOK1 func152 (by kernel_rfl) (by kernel_rfl) rfl rfl
noncomputable def cf152 : FnC := (.mk 31 17 qfv (.seq (.rg (.op .no qjo qj (.op .no (.box 84 q0) qz q4w))) (.seq (.rgd (.op .no q9i .loc (.op .no q5s .loc (.op .no q4z .loc (.op .no q5s .loc (.op .no (.hard (.call qhz [qi, qc])) .loc (.op .no (.soft qg3) .loc (.op .no (.softw qm 1 (.load 5 (.tmp 10)) (rfR 31 [10, 9, 8, 7, 6, 5] [10])) .loc (.op .no qi5 .loc (.op .no (.softw qm 1 (.load 5 (.tmp 12)) (rfR 31 [12, 11, 10, 9, 8, 7, 6, 5] [12])) .loc (.op .no qjp .loc qjr)))))))))) 2) .ret)))
theorem ck152 : compF Tryz.prog xi152 = some cf152 := by kernel_rfl
noncomputable def xi153 := xiM 153 f153 66483
theorem xk153 : TOK xi153 := tabOK1 func153 (by kernel_rfl) (by kernel_rfl) rfl rfl
noncomputable def cf153 : FnC := (.mk 66483 19 q3f (.seq q4b (.seq (.seq qjs (.block 0 (.loop (.seq qjt (.seq qh1 (.seq (.block 1 (.seq qju (.seq (.rg (.op .no q4s .loc (.op .no qb .loc (.op .no q8l .loc (.op .no q9l .loc (.op .no q9m .loc qjv)))))) qjx))) qjy)))))) qdh)))
theorem ck153 : compF Tryz.prog xi153 = some cf153 := by kernel_rfl
end
end Go.Proofs.YtmhhmaopnjfcgaaGreatDoor.V.I
namespace Go.Proofs.YtmhhmaopnjfcgaaGreatDoor.V.I
open Go Go.Proofs.Tryz
noncomputable section
set_option maxRecDepth 100000
noncomputable def xi154 := xiM 154 f154 15
theorem xk154 : TOK xi154 := tabOK1 func154 (by kernel_rfl) (by kernel_rfl) rfl rfl
noncomputable def cf154 : FnC := (.mk 15 9 qec (.seq (.rg (.op .no qit qj qjk)) (.seq (.rg (.op .no q9h .loc (.op .no q2f .loc (.op .no q3s .loc (.op .no q2f .loc (.op .no (.bin .eql 37 qi qc) .loc q5g)))))) .ret)))
theorem ck154 : compF Tryz.prog xi154 = some cf154 := by kernel_rfl
noncomputable def xi155 := xiM 155 f155 1
theorem xk155 : TOK xi155 := tabOK1 func155 (by kernel_rfl) (by kernel_rfl) rfl rfl
noncomputable def cf155 : FnC := (.mk 1 3 (.one (.tmp qa)) (.seq (.rg (.op .no qjz q7w .fin)) (.seq (.rg (.op .no (.gen (.makeMap 261 Option.none) (rfC 1 [])) .loc (.op .no (.gen (.insert 261 (.tmp 1) (.const (.int .u8 (.ofNat 0))) (.func 210)) (rfC 1 [1])) .non (.op .no (.gen (.insert 261 (.tmp 1) (.const (.int .u8 (.ofNat 1))) (.func 212)) (rfC 1 [1])) .non (.op .no (.gen (.insert 261 (.tmp 1) (.const (.int .u8 (.ofNat 3))) (.func 213)) (rfC 1 [1])) .non (.op .no (.gen (.insert 261 (.tmp 1) (.const (.int .u8 (.ofNat 2))) (.func 214)) (rfC 1 [1])) .non (.op .no qu .loc q8u))))))) .ret)))
theorem ck155 : compF Tryz.prog xi155 = some cf155 := by kernel_rfl
noncomputable def xi156 := xiM 156 f156 911
theorem xk156 : TOK xi156 := tabOK1 func156 (by kernel_rfl) (by kernel_rfl) rfl rfl
noncomputable def cf156 : FnC := (.mk 911 25 qfv (.seq qjn (.seq (.rg (.op .no q1v .loc (.op .no q50 .loc (.op .no q2f .loc (.op .no qb .loc (.op .no q4s .loc (.op .no qk0 .loc (.op .no qu .loc (.op .no qw .loc (.op .no q11 .loc (.op .no q74 q1b q37))))))))))) (.seq (.rg (.op .no q34 .loc (.op .no q3c .loc (.op .no qu .loc (.op q2k q1m .loc (.op q2m qej .loc (.op .no q8m .loc q3l))))))) .ret))))
theorem ck156 : compF Tryz.prog xi156 = some cf156 := by kernel_rfl
noncomputable def xi157 := xiM 157 f157 18907921682753696825855
theorem xk157 : TOK xi157 := tabOK1 func157 (by kernel_rfl) (by kernel_rfl) rfl rfl
noncomputable def cf157 : FnC := (.mk 18907921682753696825855 84 q3f (.seq (.rg (.op .no qbq q4 qby)) (.seq (.rg (.op .no q3s .loc (.op .no q50 .loc (.op .no qm .loc (.op .no (.bin .mul 3 q7v qc) .loc (.op .no q3s .loc (.op .no qam .loc (.op .no qm .loc (.op .no (.bin .mul 3 qf qc) .loc (.op .no (.gen (.makeSlice 263 (.tmp 16) (.tmp 16)) (rfC 18907921682753696825855 [16, 15, 14, 13, 12, 11, 10, 9])) .loc q5g)))))))))) (.seq (.seq (.rg q4w) (.block 0 (.loop (.seq (.seq (.rg (.op .no q1e .loc (.op .no qce .loc (.op .no qm .loc (.op .no q1x .loc (.op .no q9k qp .fin)))))) q84) (.seq (.block 1 (.seq (.rg (.op .no qce .loc (.op .no qm .loc (.op .no q1e .loc (.op .no q2e .loc (.op .no q2f .loc (.op .no q2g q1b q9g))))))) (.seq (.rg q23) (.block 2 (.loop (.seq (.seq (.rg (.op .no q34 .loc (.op .no qfn q1y .fin))) (.cond q1z .skip q9v)) (.seq (.block 3 (.seq (.rg (.op .no q3s .loc (.op .no q52 .loc (.op .no qc1 .loc (.op .no qm .loc (.op .no q34 .loc (.op .no (.call (.lit (.clo 158 [])) [qf, qt, qc]) .loc q39))))))) (.seq (.seq (.rgd (.op .no q86 .loc (.op .no qi1 .loc (.op .no qv .loc (.op q1g qfs .loc (.op q1i q53 .loc (.op q1k (.soft qc1) .loc (.op q1n q5s .loc (.op q1q q85 .loc (.op q4k (.hard (.call (.lit (.clo 216 [])) [qf, qt, qc])) .loc (.op qfr (.soft qg0) .loc (.op q2w (.softw qm 1 (.load 5 (.tmp 49)) (rfR 18907921682753696825855 [49, 48, 47, 46, 45, 44, 43, 42, 41, 40] [49, 42])) .loc (.op (.yes q2u false) (.soft (.gen (.convert 5 3 (.tmp 50)) (rfR 18907921682753696825855 [50, 49, 48, 47, 46, 45, 44, 43, 42, 41, 40] [50, 42]))) .loc (.op (.yes qap false) qjl .loc (.op .no (.soft (.pick qan q1t qc)) q2a .fin)))))))))))))) 0) (.cond q2b (.exit 3) .skip)) (.seq (.rg (.op .no q8l .loc (.op .no qc1 .loc (.op .no qm .loc (.op .no qfp .loc (.op .no q34 .loc (.op .no qfq .loc (.op .no qeq .loc (.op .no qm .loc (.op .no (.ias 1 q2q qi) .loc qad)))))))))) (.seq (.rg (.op .no q20 q2h .fin)) (.block 4 (.loop (.seq (.seq (.rg (.op .no q8n .loc (.op .no qfn q31 .fin))) (.cond q32 .skip qa0)) (.seq (.block 5 (.seq (.rgd (.op .no qfs .loc (.op .no q53 .loc (.op .no q86 .loc (.op .no q9s .loc (.op .no (.hard qfo) .loc (.op .no (.soft qc1) .loc (.op .no (.softw qm 1 (.load 3 (.tmp 72)) (rfR 18907921682753696825855 [72, 71, 70, 69, 68, 67] [72])) .loc (.op .no (.soft qk1) q3t .fin)))))))) 0) (.cond q3v (.rg (.op .no q8l .loc (.op .no q28 .loc (.op .no qfp .loc (.op .no q8n .loc (.op .no qfq .loc (.op .no qeq .loc (.op .no qm .loc (.op .no (.ias 1 q4l qi) .loc qad))))))))) .skip))) (.rg (.op .no q8n .loc (.op .no q36 .loc q8y)))))))))))) q38))))))) q59))))) qjw))))
theorem ck157 : compF Tryz.prog xi157 = some cf157 := by kernel_rfl
noncomputable def xi158 := xiM 158 f158 17179869391
theorem xk158 : TOK xi158 := tabOK1 func158 (by kernel_rfl) (by kernel_rfl) rfl rfl
noncomputable def cf158 : FnC := (.mk 17179869391 48 qfv (.seq qk2 (.seq (.rg (.op .no qcc .loc (.op .no q4s .loc (.op .no q55 .loc (.op .no q80 .loc (.op .no (.call (.lit (.clo 217 [])) [qt, qc]) .loc (.op .no q8k q1b q9g))))))) (.seq (.seq (.rg (.op .no qc1 .loc (.op .no qm .loc (.op .no q95 .loc (.op .no qu .loc (.op q1g qg0 .loc (.op q1i qm .loc (.op q1k q95 .loc (.op .no q4h .loc (.op .no qu .loc (.op q1g qc1 .loc (.op q1i qm .loc (.op q1k q1v .loc (.op q1n qm .loc (.op q1q qjh .loc (.op .no q1u .loc (.op .no qu .loc (.op q1g qg0 .loc (.op q1i qm .loc (.op q1k qi4 .loc (.op q1n qm .loc (.op q1q qjh .loc (.op .no q1u q22 .fin))))))))))))))))))))))) (.cond q33 qk3 .skip)) (.seq (.rg (.op .no qg0 .loc (.op .no qm .loc (.op .no q1v .loc (.op .no qm .loc (.op .no q4j .loc (.op .no qc1 .loc (.op .no qm .loc (.op .no qg1 .loc (.op .no q4x .loc (.op .no qeq .loc (.op .no qm .loc (.op .no (.gen (.convert 5 3 (.tmp 45)) (rfC 17179869391 [45, 44, 43, 42, 41, 40, 39, 38, 37, 36, 35])) .loc (.op .no qji .loc q3l)))))))))))))) .ret)))))
theorem ck158 : compF Tryz.prog xi158 = some cf158 := by kernel_rfl
noncomputable def xi159 := xiM 159 f159 8522815
theorem xk159 : TOK xi159 := tabOK1 func159 (by kernel_rfl) (by kernel_rfl) rfl rfl
noncomputable def cf159 : FnC := (.mk 8522815 31 qi3 (.seq (.rg (.op .no qie qj (.op .no q7y qz (.op .no q8b q13 .fin)))) (.seq (.rg (.op .no qbt .loc (.op .no qbu .loc (.op .no (.call (.lit (.clo 165 [])) [qt, qc]) .loc (.op .no q70 q1b q9g))))) (.seq (.seq (.rg (.op .no qc1 .loc (.op .no qm q22 .fin))) (.block 0 (.seq (.rg (.op .no (.bin .eql 5 q33 q6) .loc q39)) (.cond q27 (.seq (.rg (.op .no qg0 .loc (.op .no qm .loc (.op .no qf4 .loc (.op .no qk4 .loc qic))))) .ret) (.seq (.rg (.op .no (.bin .eql 5 q33 qcn) .loc q8y)) (.cond q2i (.seq (.rg (.op .no qeq .loc (.op .no qm .loc (.op .no qf4 .loc (.op .no (.bld [(.mk 0 1 qn), q42] [(.int .u8 (.ofNat 0)), (.int .i64 (.ofNat 0))]) .loc qic))))) .ret) (.seq (.rg (.op .no (.bin .eql 5 q33 qco) .loc q6h)) (.cond qq (.seq (.rg (.op .no qg0 .loc (.op .no qm .loc (.op .no qk5 .loc qic)))) .ret) .skip)))))))) (.seq (.rg (.op .no qeq .loc (.op .no qm .loc (.op .no qk6 .loc qic)))) .ret)))))
theorem ck159 : compF Tryz.prog xi159 = some cf159 := by kernel_rfl
noncomputable def xi160 := xiM 160 f160 15
theorem xk160 : TOK xi160 := tabOK1 func160 (by kernel_rfl) (by kernel_rfl) rfl rfl
noncomputable def cf160 : FnC := (.mk 15 31 qk7 (.seq (.rg (.op .no qie q4 (.op .no qfy qj .fin))) (.seq (.rg (.op .no qch .loc (.op .no (.call (.lit (.clo 218 [])) [qc]) .loc (.op .no qk8 qz (.op .no (.st 6 q10 qc) .non .fin))))) (.seq (.rg (.op .no (.iaa 3 2 q10 q15) .loc (.op .no q50 .loc (.op .no qm .loc (.op .no (.iaa 3 2 q10 q35) .loc (.op .no q50 .loc (.op .no qm .loc (.op .no qji .loc (.op .no (.iaa 3 2 q10 q8) .loc (.op .no q50 .loc (.op .no qm .loc (.op .no qji .loc (.op .no (.bin .quo 3 qc q17) .loc (.op .no (.iaa 3 2 q10 q15) .loc (.op .no qam .loc (.op .no qm .loc (.op .no (.iaa 3 2 q10 q35) .loc (.op .no qam .loc (.op .no qm .loc (.op .no qji .loc (.op .no (.iaa 3 2 q10 q8) .loc (.op .no qam .loc (.op .no qm .loc (.op .no qji .loc (.op .no (.bin .quo 3 qc q17) .loc (.op .no (.bld [(.mk 0 1 qdy), q42] [(.int .i64 (.ofNat 0)), (.int .i64 (.ofNat 0))]) .loc qk9)))))))))))))))))))))))))) .ret))))
theorem ck160 : compF Tryz.prog xi160 = some cf160 := by kernel_rfl
noncomputable def xi161 := xiM 161 f161 4210943
theorem xk161 : TOK xi161 := tabOK1 func161 (by kernel_rfl) (by kernel_rfl) rfl rfl
noncomputable def cf161 : FnC := (.mk 4210943 39 qi3 (.seq (.rg (.op .no qg7 qj (.op .no (.box 267 q0) qz (.op .no qfy q13 .fin)))) (.seq (.rgd (.op .no q4z .loc (.op .no q5s .loc (.op .no qi5 .loc (.op .no q5s .loc (.op .no qip q1b q8i))))) 0) (.seq (.seq (.rg (.op .no q9h .loc (.op .no qm .loc (.op .no (.bin .geq 5 qc q6) q2h .fin)))) (.cond q2i (.rg (.op .no q1m .loc (.op .no (.gen (.unOp UnOp.neg 3 (.tmp 15)) (rfC 4210943 [15])) .loc q1c))) .skip)) (.seq (.seq q26 (.block 0 (.loop (.seq (.seq (.rg (.op .no q28 .loc (.op .no q9h .loc (.op .no qm .loc (.op .no qd .loc (.op .no (.gen (.convert 5 3 (.tmp 20)) (rfC 4210943 [20, 19, 18, 17])) .loc (.op .no q29 qp .fin))))))) q84) (.seq (.block 1 (.rg (.op .no q34 .loc (.op .no (.gen (.unOp UnOp.neg 3 (.tmp 25)) (rfC 4210943 [25])) .loc (.op .no q1m .loc (.op .no q74 q1b q37)))))) q3a))))) (.seq (.rg (.op .no q1m .loc (.op .no qg3 .loc (.op .no qm .loc (.op .no qg4 .loc (.op .no qji .loc (.op .no q34 .loc (.op .no qih .loc (.op .no qm .loc (.op .no qg4 .loc (.op .no qji .loc (.op .no qka .loc qic)))))))))))) .ret))))))
theorem ck161 : compF Tryz.prog xi161 = some cf161 := by kernel_rfl
noncomputable def xi162 := xiM 162 f162 83
theorem xk162 : TOK xi162 := tabOK1 func162 (by kernel_rfl) (by kernel_rfl) rfl rfl
noncomputable def cf162 : FnC := (.mk 83 18 q3f (.seq q4b (.seq (.seq (.rg (.op .no qb .loc (.op .no q95 qz .fin))) (.cond q10 (.seq (.rg (.op .no qb .loc (.op .no (.gen (.unOp UnOp.neg 3 (.tmp 7)) (rfC 83 [7])) .loc (.op .no q4s .loc (.op .no qfq .loc (.op .no q9t .loc (.op .no q4s .loc (.op .no (.bin .quo 3 qt qc) .loc (.op .no (.gen (.unOp UnOp.neg 3 (.tmp 13)) (rfC 83 [13, 12, 11, 10, 9, 8, 7])) .loc q3n))))))))) .ret) .skip)) (.seq (.rg (.op .no qb .loc (.op .no q4s .loc (.op .no (.bin .quo 3 qt qc) .loc q3n)))) .ret))))
theorem ck162 : compF Tryz.prog xi162 = some cf162 := by kernel_rfl
noncomputable def xi163 := xiM 163 f163 4535552573503
theorem xk163 : TOK xi163 := tabOK1 func163 (by kernel_rfl) (by kernel_rfl) rfl rfl
noncomputable def cf163 : FnC := (.mk 4535552573503 49 qcd (.seq (.rg (.op .no (.box 267 qa) q4 (.op .no q8k qj .fin))) (.seq (.rgd (.op .no qfs .loc (.op .no q5s .loc (.op .no qge .loc (.op .no (.soft q4g) .loc (.op .no (.softw qm 1 (.load 3 (.tmp 9)) (rfR 4535552573503 [9, 8, 7, 6] [9])) .loc (.op .no qge .loc (.op .no (.soft (.bld [qer, q42] [(.int .i64 (.ofNat 0)), (.int .i64 (.ofNat 0)), (.int .u8 (.ofNat 0))])) .loc (.op .no qfu qz qcb)))))))) 2) (.seq (.rgd (.op .no qfs .loc (.op .no q5s .loc (.op .no q4z .loc (.op .no q5s .loc (.op .no qkb .loc (.op .no (.soft qkc) .loc (.op .no (.soft q4g) .loc (.op .no q5s .loc (.op .no qi5 .loc (.op .no q5s .loc (.op .no qkb .loc (.op .no (.soft qkc) .loc (.op .no (.soft (.mv q4l)) q13 qkd))))))))))))) 0) (.seq (.block 0 (.seq (.rg (.op .no q1m .loc (.op .no q1e .loc (.op .no qdk .loc (.op .no qu .loc (.op q2k q1e .loc (.op q2m q1m .loc (.op q2n qfq .loc (.op q2o (.bin .lss 3 qc q9) .loc (.op .no q8t .loc q37)))))))))) (.cond q33 (.rg (.op .no q9q .loc (.op .no (.st 1 qc qcz) .non .fin))) (.seq (.rg (.op .no q1m .loc (.op .no q1e .loc (.op .no qdk .loc q39)))) (.cond q27 (.rg (.op .no q9q .loc (.op .no (.st 1 qc qg) .non .fin))) (.seq (.rg (.op .no q1e .loc (.op .no q1m .loc (.op .no qfq .loc (.op .no (.bin .gtr 3 qc q9) .loc q8y))))) (.cond q2i (.rg (.op .no q9q .loc (.op .no (.st 1 qc qn) .non .fin))) (.rg (.op .no q9q .loc (.op .no (.st 1 qc qbk) .non .fin)))))))))) (.seq (.rg (.op .no qbu .loc qci)) .ret))))))
theorem ck163 : compF Tryz.prog xi163 = some cf163 := by kernel_rfl
noncomputable def xi164 := xiM 164 f164 137438953503
theorem xk164 : TOK xi164 := tabOK1 func164 (by kernel_rfl) (by kernel_rfl) rfl rfl
noncomputable def cf164 : FnC := (.mk 137438953503 38 qfv (.seq qif (.seq (.seq (.rg (.op .no qg3 .loc (.op .no qm .loc (.op .no qi4 .loc (.op .no qm .loc (.op .no qhq .loc (.op .no qu .loc (.op q1g qg3 .loc (.op q1i qm .loc (.op q1k qi4 .loc (.op q1n qm .loc (.op q1q qk1 .loc (.op q4k qu .loc (.op q2k q9h .loc (.op q2m qm .loc (.op q2n q1v .loc (.op q2o qm .loc (.op q8p qhq .loc (.op qdv qu .loc (.op q1g q9h .loc (.op q1i qm .loc (.op q1k q1v .loc (.op q1n qm .loc (.op q1q qk1 .loc (.op q4k qu .loc (.op q2k qih .loc (.op q2m qm .loc (.op q2n q9q .loc (.op q2o qm .loc (.op q8p (.bin .gtr 5 qi qc) .loc (.op qdx q8r .loc (.op (.yes (.loc q30) true) (.pick qdy q1t qc) .loc (.op (.yes (.loc qh5) false) (.pick (.loc (.s q30)) qc q2) .loc (.op .no qh8 q1b .fin)))))))))))))))))))))))))))))))))) (.cond q1l qke .skip)) qkf)))
theorem ck164 : compF Tryz.prog xi164 = some cf164 := by kernel_rfl
noncomputable def xi165 := xiM 165 f165 4398048608799
theorem xk165 : TOK xi165 := tabOK1 func165 (by kernel_rfl) (by kernel_rfl) rfl rfl
noncomputable def cf165 : FnC := (.mk 4398048608799 67 qg6 (.seq (.rg (.op .no qie qj (.op .no q7y qz (.op .no q70 q13 .fin)))) (.seq (.seq qkg (.cond q1l (.seq (.rg (.op .no q9h .loc (.op .no qm .loc (.op .no q1v .loc (.op .no qm .loc (.op .no qkh .loc (.op .no qcm .loc (.op .no qdo .loc qbd)))))))) .ret) .skip)) (.seq (.seq (.rg (.op .no qg3 .loc (.op .no qm .loc (.op .no qi4 .loc (.op .no qm .loc (.op .no q81 q22 .fin)))))) (.cond q33 (.seq (.rg (.op .no qg3 .loc (.op .no qm .loc (.op .no qi4 .loc (.op .no qm .loc (.op .no qkh .loc (.op .no qcm .loc (.op .no qdp .loc qbd)))))))) .ret) .skip)) (.seq (.seq (.rg (.op .no qih .loc (.op .no qm .loc (.op .no q9q .loc (.op .no qm .loc (.op .no (.bin .add 5 qi qc) .loc (.op .no (.bin .eql 5 qc qg) .loc (.op .no qu .loc (.op q1g qih .loc (.op q1i qm .loc (.op q1k q9q .loc (.op q1n qm .loc (.op q1q (.bin .add 5 qi qc) .loc (.op q4k (.bin .eql 5 qc qco) .loc (.op .no q4m q24 .fin))))))))))))))) (.cond q27 (.seq (.rg (.op .no q9h .loc (.op .no qm .loc (.op .no qg3 .loc (.op .no qm .loc (.op .no qg1 .loc (.op .no q36 .loc (.op .no q9h .loc (.op .no qm .loc (.op .no qg3 .loc (.op .no qm .loc (.op .no qg1 .loc (.op .no q36 .loc (.op .no (.bld [(.mk 0 1 qco), (.mk 1 1 q4l), qaq] [(.int .u8 (.ofNat 0)), (.int .i64 (.ofNat 0)), (.int .i64 (.ofNat 0))]) .loc qbd)))))))))))))) .ret) .skip)) (.seq (.rg (.op .no q9h .loc (.op .no qm .loc (.op .no qg3 .loc (.op .no qm .loc (.op .no qg2 .loc (.op .no qg3 .loc (.op .no qm .loc (.op .no q9h .loc (.op .no qm .loc (.op .no qg2 .loc (.op .no (.bld [qcq, (.mk 1 1 q1s), qaq] [(.int .u8 (.ofNat 0)), (.int .i64 (.ofNat 0)), (.int .i64 (.ofNat 0))]) .loc qbd)))))))))))) .ret))))))
theorem ck165 : compF Tryz.prog xi165 = some cf165 := by kernel_rfl
noncomputable def xi166 := xiM 166 f166 2309489120784772063
theorem xk166 : TOK xi166 := tabOK1 func166 (by kernel_rfl) (by kernel_rfl) rfl rfl
noncomputable def cf166 : FnC := (.mk 2309489120784772063 64 q7x (.seq (.rg (.op .no qbq qz (.op .no qbr q13 q63))) (.seq (.rg (.op .no qbu .loc (.op .no q7z .loc (.op .no qhc .loc (.op .no qu .loc (.op .no qw .loc (.op .no q11 .loc (.op .no (.alloc 46 [(.con (.slice Option.none 0 0))]) q22 (.op .no (.st 1 q33 qt) .non q39))))))))) (.seq (.seq (.rg (.op .no q28 .loc q8z)) (.cond q3v (.seq (.rg (.op .no q28 .loc q1c)) .ret) .skip)) (.seq (.seq (.rg (.op .no q80 .loc (.op .no q1v .loc (.op .no q52 .loc (.op .no (.call (.lit (.clo 220 [])) [qi, qc]) .loc q8y))))) (.seq (.rg (.op .no q8n .loc qik)) (.cond q3y (.seq (.rg (.op .no q8n .loc q1c)) .ret) .skip))) (.seq (.seq (.rg (.op .no q80 q49 (.op .no (.len q4a) q5l (.op .no q20 q7a .fin)))) (.block 0 (.loop (.seq (.rg (.op .no (.bin .lss 3 q7b q5n) q7l .fin)) (.seq (.cond q7n .skip q2c) (.seq (.block 1 (.seq (.rg (.op .no (.ias 4 q4a q7b) .loc qhf)) (.seq (.rg (.op .no (.fadr 3 qq) .loc (.op .no qm .loc (.op .no (.gen (.makeFunc (Fn.func 221) (Array.mk []) (Array.mk [(.tmp 7), (.tmp 11)])) (rfC 2309489120784772063 [40, 39])) .loc (.op .no qea q66 .fin))))) (.cond q67 qeb .skip)))) (.rg (.op .no (.bin .add 3 q7b q35) .loc qaf)))))))) (.seq (.seq (.rg (.op .no q80 q6c (.op .no (.len q6d) q6j (.op .no q20 q6r .fin)))) (.block 2 (.loop (.seq (.rg (.op .no (.bin .lss 3 q6s q6l) q6u .fin)) (.seq (.cond q6v .skip q9v) (.seq (.block 3 (.seq (.rg (.op .no (.ias 4 q6d q6s) .loc q9o)) (.seq (.rg (.op .no qd0 q76 .fin)) (.block 4 (.loop (.seq (.rg (.op .no (.bin .lss 5 q77 qbk) q7d .fin)) (.seq (.cond q7e .skip qa0) (.seq (.block 5 (.seq (.rg (.op .no (.mv q77) .loc q6p)) (.seq (.rg (.op .no q5v .loc (.op .no q2f .loc (.op .no q6q .loc (.op .no qd7 .loc (.op .no qu .loc (.op .no qw .loc (.op .no q11 .loc (.op .no q8k .loc (.op .no (.st 3 qc qi) .non (.op .no q74 q31 .fin))))))))))) (.seq (.rg (.op .no q9c .loc (.op .no q1f q7g .fin))) (.cond q7h (.seq (.rg q7i) .ret) .skip))))) (.rg (.op .no (.bin .add 5 q77 qg) .loc (.op .no qu q76 .fin))))))))))) (.rg (.op .no (.bin .add 3 q6s q35) .loc (.op .no qu q6r .fin))))))))) q82)))))))
theorem ck166 : compF Tryz.prog xi166 = some cf166 := by kernel_rfl
noncomputable def xi167 := xiM 167 f167 39
theorem xk167 : TOK xi167 := tabOK1 func167 (by kernel_rfl) (by kernel_rfl) rfl rfl
noncomputable def cf167 : FnC := (.mk 39 12 q3f (.seq q4e (.seq (.seq (.rg (.op .no q8c .loc (.op .no qjf .loc (.op .no q1f qz .fin)))) (.cond q10 q4c .skip)) (.seq (.rg (.op .no q3s .loc (.op .no qm .loc (.op .no q4x .loc (.op .no q4g .loc (.op .no qm .loc (.op .no q4j .loc q3n))))))) .ret))))
theorem ck167 : compF Tryz.prog xi167 = some cf167 := by kernel_rfl
noncomputable def xi168 := xiM 168 f168 2854582497864015163043553019533815099290744135
theorem xk168 : TOK xi168 := tabOK1 func168 (by kernel_rfl) (by kernel_rfl) rfl rfl
noncomputable def cf168 : FnC := (.mk 2854582497864015163043553019533815099290744135 180 qb3 (.seq (.rg (.op .no qb .loc (.op .no qhg .loc (.op .no q50 .loc (.op .no q50 .loc (.op .no q52 .loc (.op .no q4s .loc (.op .no qd3 .loc (.op .no qu .loc (.op .no qw .loc (.op .no q11 .loc (.op .no q8k qz (.op .no qes .non q71))))))))))))) (.seq (.rg (.op .no qbu .loc (.op .no q80 .loc (.op .no qd7 .loc (.op .no qu .loc (.op .no qw .loc (.op .no q11 .loc (.op .no q8k q13 qf9)))))))) (.seq (.rgd (.op .no qfg .loc (.op .no qhk .loc (.op .no qa7 .loc (.op .no q5s .loc (.op .no qbf .loc (.op .no qfd .loc (.op .no q9p .loc (.op .no qbe .loc (.op .no qio .loc (.op .no qv .loc (.op .no qx .loc (.op .no qfu q1b (.op .no (.hard (.st 3 q1l qc)) .non qki))))))))))))) 2) (.seq (.rgd (.op .no qfg .loc (.op .no qfg .loc (.op .no qhk .loc (.op .no (.soft (.fadr 4 qc)) .loc (.op .no q5s .loc (.op .no qbf .loc (.op .no qfd .loc (.op .no q9p .loc (.op .no (.soft q9w) .loc (.op .no (.hard (.call (.lit (.clo 222 [])) [q2u, qt, qc])) .loc q8i)))))))))) 0) (.seq (.rg (.op .no qb .loc (.op .no qhg .loc (.op .no q50 .loc (.op .no q50 .loc (.op .no q52 .loc (.op .no q4s .loc (.op .no q80 .loc (.op .no qi8 .loc qkj))))))))) (.seq (.seq (.rg (.op .no q8n .loc q5e)) (.cond q2b (.seq (.rg (.op .no q34 .loc (.op .no q34 .loc (.op .no qhg .loc (.op .no qkk .loc (.op .no qm .loc (.op .no q4s .loc (.op .no q97 .loc (.op .no q9d .loc (.op .no (.nilc q2q) .loc (.op .no qkk .loc qar))))))))))) .ret) .skip)) (.seq (.seq (.rg (.op .no q28 .loc (.op .no q4s .loc (.op .no qdk q31 .fin)))) (.cond q32 .ret .skip)) (.seq (.rg (.op .no qb .loc (.op .no qhg .loc (.op .no q50 .loc (.op .no q2f .loc (.op .no q4s .loc (.op .no q80 .loc (.op .no qk0 .loc qei)))))))) (.seq qi6 (.seq (.seq (.rgd (.op .no qfg .loc (.op .no qhk .loc (.op .no (.soft (.fadr 4 qc)) .loc (.op .no q5s .loc (.op .no qbf .loc (.op .no qfd .loc (.op .no q9p .loc (.op .no q85 .loc (.op .no qhk .loc (.op .no qa7 .loc (.op .no q9p .loc (.op .no (.soft (.bin .eql 37 q1p qc)) q3t .fin)))))))))))) 0) (.cond q3v (.rg (.op .no (.mv qg) q1y .fin)) .skip)) (.block 0 (.seq (.rg (.op .no q5t .loc (.op .no qej .loc (.op .no qu .loc (.op q2k q6o .loc (.op q2m (.bin .eql 5 qc qcz) .loc (.op .no q8m .loc qcx))))))) (.cond q3y (.rg (.op .no q34 .loc (.op .no q34 .loc (.op .no qhg .loc (.op .no qb0 .loc (.op .no qm .loc (.op .no q4s .loc (.op .no q28 .loc qkl)))))))) (.seq (.rg (.op .no q5t .loc (.op .no qej .loc q5y))) (.cond q4a (.rg (.op .no q34 .loc (.op .no q34 .loc (.op .no qhg .loc (.op .no qb0 .loc (.op .no qm .loc (.op .no q28 .loc (.op .no q4s .loc qkl)))))))) (.seq (.rgd (.op .no qfg .loc (.op .no qhk .loc (.op .no qkm .loc (.op .no q5s .loc (.op .no qbf .loc (.op .no q88 .loc (.op .no q5s .loc (.op .no qfg .loc (.op .no qhk .loc (.op .no qkm .loc (.op .no q5s .loc (.op .no q86 .loc (.op .no q88 .loc (.op .no q5s .loc (.op .no (.soft (.bin .lss 3 q2q qc)) .loc (.op .no qv q5l .fin)))))))))))))))) 0) (.cond q5n (.rg (.op .no q34 .loc (.op .no q34 .loc (.op .no qhg .loc (.op .no qhi .loc (.op .no qm .loc (.op .no q6o .loc (.op .no q4s .loc (.op .no q28 .loc qkn))))))))) (.rg (.op .no q34 .loc (.op .no q34 .loc (.op .no qhg .loc (.op .no qhi .loc (.op .no qm .loc (.op .no q6o .loc (.op .no q28 .loc (.op .no q4s .loc qkn)))))))))))))))))))))))))))
theorem ck168 : compF Tryz.prog xi168 = some cf168 := by kernel_rfl
noncomputable def xi169 := xiM 169 f169 19
theorem xk169 : TOK xi169 := tabOK1 func169 (by kernel_rfl) (by kernel_rfl) rfl rfl
noncomputable def cf169 : FnC := (.mk 19 14 qb3 (.seq qiv (.rg (.op .no qb .loc (.op .no q80 .loc (.op .no q80 .loc (.op .no qiw .loc (.op .no qix .loc (.op .no q4s .loc (.op .no (.call qko [q1s, q15, q1p, qt, qc]) .loc .fin))))))))))
theorem ck169 : compF Tryz.prog xi169 = some cf169 := by kernel_rfl
noncomputable def xi170 := xiM 170 f170 31
theorem xk170 : TOK xi170 := tabOK1 func170 (by kernel_rfl) (by kernel_rfl) rfl rfl
noncomputable def cf170 : FnC := (.mk 31 17 qfv (.seq (.rg (.op .no (.box 281 qa) qj (.op .no (.box 281 q0) qz q4w))) (.seq (.rgd (.op .no (.soft (.iaa 2 3 qk q15)) .loc (.op .no q9p .loc (.op .no (.soft (.iaa 2 3 q10 q15)) .loc (.op .no q9p .loc (.op .no (.hard qiz) .loc (.op .no (.softw (.iaa 2 3 qk q35) 1 (.indexAddr 281 (.tmp 2) (.const (.int .i64 (.ofNat 1)))) (rfR 31 [9, 8, 7, 6, 5] [2])) .loc (.op .no (.softw q2f 1 (.load 37 (.tmp 10)) (rfR 31 [10, 9, 8, 7, 6, 5] [10])) .loc (.op .no (.softw (.iaa 2 3 q10 q35) 1 (.indexAddr 281 (.tmp 3) (.const (.int .i64 (.ofNat 1)))) (rfR 31 [11, 10, 9, 8, 7, 6, 5] [3])) .loc (.op .no (.softw q2f 1 (.load 37 (.tmp 12)) (rfR 31 [12, 11, 10, 9, 8, 7, 6, 5] [12])) .loc (.op .no (.hard qiz) .loc qjr)))))))))) 2) .ret)))
theorem ck170 : compF Tryz.prog xi170 = some cf170 := by kernel_rfl
noncomputable def xi171 := xiM 171 f171 23
theorem xk171 : TOK xi171 := tabOK1 func171 (by kernel_rfl) (by kernel_rfl) rfl rfl
noncomputable def cf171 : FnC := (.mk 23 49 (.one (.cell 9 true q10)) (.seq (.rg (.op .no (.box 273 qa) qj (.op .no qay qz .fin))) (.seq (.rg (.op .no q4s .loc (.op .no qhg .loc (.op .no qb0 .loc (.op .no qm .loc (.op .no (.gen (.makeFunc (Fn.func 225) (Array.mk []) (Array.mk [(.tmp 2)])) (rfC 23 [8, 7, 6, 5])) .loc (.op .no (.call (.lit (.clo 224 [])) [qt, qc]) .loc .fin))))))) (.seq (.rg (.op .no q4s .loc (.op .no qhg .loc (.op .no qhi .loc (.op .no qm .loc (.op .no (.gen (.makeFunc (Fn.func 227) (Array.mk []) (Array.mk [(.tmp 2)])) (rfC 23 [14, 13, 12, 11])) .loc (.op .no (.call (.lit (.clo 226 [])) [qt, qc]) .loc .fin))))))) (.seq (.rg (.op .no q4s .loc (.op .no qhg .loc (.op .no qkk .loc (.op .no qm .loc (.op .no (.call (.lit (.clo 228 [])) [qc]) .loc .fin)))))) (.seq (.rgd (.op .no qbf .loc (.op .no qhk .loc (.op .no qhl .loc (.op .no q5s .loc (.op .no (.hard (.call (.lit (.clo 230 [])) [qc])) .loc (.op .no (.hard (.call (.lit (.clo 229 [])) [qc])) .loc (.op .no qbf .loc (.op .no qhk .loc (.op .no (.soft qhi) .loc (.op .no (.softw qm 2 (.load 190 (.tmp 38)) (rfR 23 [38, 37, 36, 35, 34, 33, 32, 31, 30] [38])) .loc (.op .no (.hard (.call (.lit (.clo 232 [])) [qc])) .loc (.op .no (.hard (.call (.lit (.clo 231 [])) [qc])) .loc (.op .no qbf .loc (.op .no qhk .loc (.op .no (.soft qkk) .loc (.op .no (.softw qm 4 (.load 38 (.tmp 44)) (rfR 23 [44, 43, 42, 41, 40, 39, 38, 37, 36, 35, 34, 33, 32, 31, 30] [44])) .loc (.op .no (.hard qiu) .loc (.op .no (.hard q9f) .loc (.op .no qbf .loc (.op .no qhk .loc (.op .no q51 .loc (.op .no (.softw q2f 6 (.load 37 (.tmp 24)) (rfR 23 [24, 23, 22, 47, 46, 45, 44, 43, 42, 41, 40, 39, 38, 37, 36, 35, 34, 33, 32, 31, 30] [24])) .loc (.op .no qbf .loc (.op .no qhk .loc (.op .no qa7 .loc (.op .no (.softw q2f 6 (.load 37 (.tmp 28)) (rfR 23 [28, 27, 26, 25, 24, 23, 22, 47, 46, 45, 44, 43, 42, 41, 40, 39, 38, 37, 36, 35, 34, 33, 32, 31, 30] [28])) .loc (.op .no (.soft (.bld [(.mk 0 3 q1p), (.mk 3 3 qc), (.mk 6 1 (.loc (.s (.s q30)))), (.mk 7 1 (.loc (.s q2x))), (.mk 8 1 q2u)] [(.int .i64 (.ofNat 0)), (.int .i64 (.ofNat 0)), (.int .u8 (.ofNat 0)), (.int .i64 (.ofNat 0)), (.int .i64 (.ofNat 0)), (.int .u8 (.ofNat 0)), (.con (.slice Option.none 0 0)), (.con (.slice Option.none 0 0)), (.con (.slice Option.none 0 0))])) .loc (.op .no (.hard (.st 9 q10 qc)) .non .fin)))))))))))))))))))))))))))) 0) .ret))))))
theorem ck171 : compF Tryz.prog xi171 = some cf171 := by kernel_rfl
noncomputable def xi172 := xiM 172 f172 67547
theorem xk172 : TOK xi172 := tabOK1 func172 (by kernel_rfl) (by kernel_rfl) rfl rfl
noncomputable def cf172 : FnC := (.mk 67547 22 qec (.seq qfe (.seq (.seq (.rg (.op .no qb q1b qb4)) (.block 0 (.loop (.seq qb5 (.seq qb6 (.seq (.block 1 (.seq (.rg (.op .no (.ias 4 q1l q27) .loc (.op .no q9m .loc (.op .no q9n q13 (.op .no (.st 4 q1d qc) .non .fin))))) (.seq (.rg (.op .no qfb .loc (.op .no q2f .loc (.op .no qbt .loc (.op .no (.bin .eql 37 qt qc) qp .fin))))) (.cond qq (.seq (.rg (.op .no qe7 .loc (.op .no qm .loc (.op .no qiu .loc (.op .no q9f .loc q5g))))) .ret) .skip)))) qbh)))))) (.seq (.rg qed) .ret))))
theorem ck172 : compF Tryz.prog xi172 = some cf172 := by kernel_rfl
noncomputable def xi173 := xiM 173 f173 144860660952047
theorem xk173 : TOK xi173 := tabOK1 func173 (by kernel_rfl) (by kernel_rfl) rfl rfl
noncomputable def cf173 : FnC := (.mk 144860660952047 70 (.many [q62, q8v, (.cell 1 false q27)]) (.seq (.rg (.op .no (.box 192 qa) qz (.op .no (.box 38 qk) q13 (.op .no q8x q1b (.op .no q8x q22 (.op .no q46 q24 .fin)))))) (.seq (.rg (.op .no (.st 1 q27 q1t) .non .fin)) (.seq (.rg (.op .no (.gen (.makeFunc (Fn.func 233) (Array.mk []) (Array.mk [(.tmp 5), (.tmp 8)])) (rfC 144860660952047 [])) .loc q8y)) (.seq (.seq (.rg (.op .no (.fadr 6 q10) .loc q5j)) (.block 0 (.loop (.seq q5m (.seq q5o (.seq (.block 1 (.seq (.rg (.op .no (.ias 2 q3v q4a) .loc (.op .no q52 .loc (.op .no (.alloc 334 [(.int .i64 (.ofNat 0)), (.int .i64 (.ofNat 0))]) qp (.op .no (.st 2 qq qc) .non .fin))))) (.rg (.op .no q34 .loc (.op .no q8n .loc (.op .no (.fadr 0 qq) .loc (.op .no qm .loc (.op .no (.fadr 1 qq) .loc (.op .no qm .loc (.op .no qig .loc (.op .no q4s .loc (.op .no (.gen (.index 291 (.tmp 30) (.tmp 31)) (rfC 144860660952047 [31, 30, 29, 28, 27, 26, 25, 24])) .loc (.op .no (.call q2q [qc]) .loc (.op .no q97 .loc (.op .no (.app 38 3 1 8 qan qc) .loc q37))))))))))))))) q5z)))))) (.seq (.seq (.rg (.op .no qb7 .loc (.op .no qm q7a q98))) (.block 2 (.loop (.seq q99 (.seq (.cond q6d .skip q9v) (.seq (.block 3 (.seq (.rg (.op .no (.ias 3 q7b q67) .loc (.op .no q2f .loc (.op .no qbb q1y q5r)))) (.seq (.rg (.op .no q5v .loc (.op .no qm .loc (.op .no q4s .loc (.op .no (.bin .eql 5 qt qc) q6j .fin))))) (.cond q6l (.seq (.rgd (.op .no q9s .loc (.op .no (.soft (.fadr 1 q1z)) .loc (.op .no q5s .loc (.op .no (.hard (.call qi [qc])) .loc (.op .no q9s .loc (.op .no (.soft (.fadr 2 q1z)) .loc (.op .no (.softw qm 1 (.load 3 (.tmp 53)) (rfR 144860660952047 [53, 52, 51, 50, 49, 48] [53])) .loc (.op .no (.hard (.call qi [qc])) .loc (.op .no (.soft (.mv q1p)) q2a (.op .no qv q31 .fin)))))))))) 0) (.rg (.op .no q1m .loc (.op .no q6q .loc (.op .no q9c .loc (.op .no (.gen (.call (Call.mk (Callee.builtin Builtin.min) (Array.mk [(.tmp 57), (.tmp 58)]) (Array.mk [3, 3]))) (rfC 144860660952047 [58, 57, 56])) .loc (.op .no q6q .loc (.op .no q9c .loc (.op .no (.gen (.call (Call.mk (Callee.builtin Builtin.max) (Array.mk [(.tmp 60), (.tmp 61)]) (Array.mk [3, 3]))) (rfC 144860660952047 [61, 60, 59, 58, 57, 56])) .loc (.op .no qii .loc (.op .no (.bsl 291 1 2 [qc]) .loc (.op .no (.app 286 291 2 16 q2u qc) .loc q1c)))))))))))) .skip)))) q9e)))))) (.seq (.rgd (.op .no qfc .loc (.op .no q85 .loc (.op .no q5u .loc (.op .no qip q1b (.op .no (.soft q74) q22 (.op .no (.hard (.st 1 q27 qc)) .non .fin)))))) 0) .ret)))))))
theorem ck173 : compF Tryz.prog xi173 = some cf173 := by kernel_rfl
noncomputable def xi174 := xiM 174 f174 19
theorem xk174 : TOK xi174 := tabOK1 func174 (by kernel_rfl) (by kernel_rfl) rfl rfl
noncomputable def cf174 : FnC := (.mk 19 9 q3f (.seq qj5 (.seq (.rg (.op .no qb .loc (.op .no q4s .loc (.op .no (.call (.lit (.clo 235 [])) [qt, qc]) .loc qj6)))) .ret)))
theorem ck174 : compF Tryz.prog xi174 = some cf174 := by kernel_rfl
noncomputable def xi175 := xiM 175 f175 7
theorem xk175 : TOK xi175 := tabOK1 func175 (by kernel_rfl) (by kernel_rfl) rfl rfl
noncomputable def cf175 : FnC := (.mk 7 6 q3f (.seq (.rg (.op .no (.box 195 qa) q4 qj4)) (.seq (.rg (.op .no q3s .loc (.op .no qm .loc (.op .no q93 .loc q3n)))) .ret)))
theorem ck175 : compF Tryz.prog xi175 = some cf175 := by kernel_rfl
noncomputable def xi179 := xiM 179 f179 263157
theorem xk179 : TOK xi179 := tabOK1 func179 (by kernel_rfl) (by kernel_rfl) rfl rfl
noncomputable def cf179 : FnC := (.mk 263157 21 q1 (.seq qd9 (.seq (.seq qda (.block 0 (.loop (.seq qaw (.seq qax (.seq (.block 1 (.seq (.rg (.op .no (.ias 2 q1d q33) .loc (.op .no q52 .loc (.op .no qho qj qk9)))) (.seq (.rg (.op .no (.iaa 2 1 qk q15) .loc (.op .no qm .loc (.op .no (.iaa 2 1 qk q35) .loc (.op .no qm .loc (.op .no (.call qhz [qi, qc]) .loc q5g)))))) (.seq (.rg (.op .no q8l .loc (.op .no qdq q2h .fin))) qdd)))) qb2)))))) (.seq qd9 .ret))))
theorem ck179 : compF Tryz.prog xi179 = some cf179 := by kernel_rfl
noncomputable def xi181 := xiM 181 f181 36893774020450329071
theorem xk181 : TOK xi181 := tabOK1 func181 (by kernel_rfl) (by kernel_rfl) rfl rfl
noncomputable def cf181 : FnC := (.mk 36893774020450329071 66 q3f (.seq (.rg (.op .no qbq q4 q3h)) (.seq (.seq (.rg (.op .no q3s .loc (.op .no q52 .loc (.op .no qjf .loc q5g)))) (.seq (.rg (.op .no q8l .loc qb1)) (.cond q2i qjw .skip))) (.seq (.seq (.rg (.op .no qce .loc (.op .no qm .loc (.op .no (.call (.lit (.clo 245 [])) [qc, (.lit (.clo 246 []))]) qp .fin)))) qdn) (.seq (.seq (.rg (.op .no qce .loc (.op .no qm q1y (.op .no (.len q1z) q2a (.op .no q20 q31 .fin))))) (.block 0 (.loop (.seq (.rg (.op .no (.bin .lss 3 q32 q2b) q3t .fin)) (.seq (.cond q3v .skip q2c) (.seq (.block 1 (.seq (.rg (.op .no (.ias 3 q1z q32) .loc qkp)) (.seq (.rg (.op .no q3s .loc (.op .no q52 .loc (.op .no qfb .loc (.op .no qm .loc (.op .no (.fadr 1 q1d) .loc (.op .no qm .loc (.op .no qkq .loc (.op .no qu .loc (.op .no qw .loc (.op .no q11 .loc (.op .no qd1 q1b (.op .no (.st 2 q1l qt) .non q37))))))))))))) (.seq (.rgd (.op .no q85 .loc (.op .no (.soft q1f) .loc (.op .no qv .loc (.op q1g qbe .loc (.op q1i qkr .loc (.op q1k (.softw q91 1 (.load 100 (.tmp 6)) (rfR 36893774020450329071 [40, 39, 37, 36, 35] [6, 37])) .loc (.op q1n (.soft (.bin .neq 100 qc qt)) .loc (.op .no (.soft qdr) q3w .fin)))))))) 0) (.cond q3y (.seq (.rg (.op .no (.mv q6x) qj .fin)) .ret) .skip))))) (.rg (.op .no (.bin .add 3 q32 q35) .loc q9b)))))))) (.seq (.seq (.rg (.op .no q4n q24 .fin)) (.block 2 (.loop (.seq (.seq (.rg (.op .no q28 .loc (.op .no qce .loc (.op .no qm .loc (.op .no q1x .loc (.op .no q9k q49 .fin)))))) (.cond q4a .skip q9v)) (.seq (.block 3 (.seq (.rgd (.op .no (.soft qce) .loc (.op .no q5s .loc (.op .no q86 .loc (.op .no qgn .loc (.op .no qh3 .loc (.op .no q9p .loc (.op .no qkr .loc (.op .no (.soft qce) .loc (.op .no (.softw qm 1 (.load 27 (.tmp 58)) (rfR 36893774020450329071 [58, 57, 56, 55, 54, 53, 52, 51] [58])) .loc (.op .no q86 .loc (.op .no (.softw q2e 1 (.indexAddr 27 (.tmp 59) (.tmp 60)) (rfR 36893774020450329071 [60, 59, 58, 57, 56, 55, 54, 53, 52, 51] [59, 60])) .loc (.op .no (.softw q2f 1 (.load 84 (.tmp 61)) (rfR 36893774020450329071 [61, 60, 59, 58, 57, 56, 55, 54, 53, 52, 51] [61])) .loc (.op .no qkr .loc (.op .no (.hard (.call (.lit (.clo 249 [])) [q4l, qc])) .loc (.op .no (.soft q9u) q5l .fin))))))))))))))) 0) (.cond q5n (.seq (.rg (.op .no (.mv q9) qj .fin)) .ret) .skip))) q3a))))) q4c))))))
theorem ck181 : compF Tryz.prog xi181 = some cf181 := by kernel_rfl
noncomputable def xi182 := xiM 182 f182 9444805164174432813055
theorem xk182 : TOK xi182 := tabOK1 func182 (by kernel_rfl) (by kernel_rfl) rfl rfl
noncomputable def cf182 : FnC := (.mk 9444805164174432813055 76 (.many [(.tmp qk), q5a]) (.seq (.rg (.op .no qbq q4 (.op .no q8x qj q5d))) (.seq (.rg (.op .no qch .loc (.op .no (.call (.lit (.clo 250 [])) [qc]) .loc (.op .no (.alloc 356 [(.con (.map Option.none))]) q13 (.op .no (.st 1 q1d qc) .non .fin))))) (.seq (.rg (.op .no q3s .loc (.op .no q52 .loc (.op .no qha .loc (.op .no (.gen (.makeSlice 163 (.tmp 18) (.tmp 18)) (rfC 9444805164174432813055 [18, 17, 16])) .loc (.op .no (.alloc 163 [(.con (.slice Option.none 0 0))]) q1b qks)))))) (.seq (.rg (.op .no qkt .loc (.op .no q1x .loc (.op .no (.gen (.makeSlice 91 (.tmp 21) (.tmp 21)) (rfC 9444805164174432813055 [21, 20])) .loc q37)))) (.seq (.rg (.op .no (.gen (.makeFunc (Fn.func 251) (Array.mk []) (Array.mk [(.tmp 1), (.tmp 4), (.tmp 5)])) (rfC 9444805164174432813055 [])) .loc q39)) (.seq (.rg (.op .no q34 .loc (.op .no q7c .loc qgw))) (.seq (.seq (.rg (.op .no (.bsl 3 1 1 [q15]) .loc q8y)) (.block 0 (.loop (.seq (.seq (.rg (.op .no q8n .loc (.op .no q1x .loc (.op .no qdu q3w .fin)))) q3z) (.block 1 (.seq (.rg (.op .no q8n .loc (.op .no q7c .loc (.op .no qm .loc q6h)))) (.seq (.rg (.op .no q8n .loc (.op .no (.gen (.slice 38 (.tmp 33) (Option.some (.const (.int .i64 (.ofNat 1)))) Option.none Option.none) (rfC 9444805164174432813055 [33])) .loc q8y))) (.seq (.rg (.op .no qd0 q49 .fin)) (.block 2 (.loop (.seq (.rg (.op .no (.bin .lss 5 q4a qbk) q5l .fin)) (.seq (.cond q5n .skip q9v) (.seq (.block 3 (.seq (.rg (.op .no q5p .loc q6n)) (.seq (.rg (.op .no q3s .loc (.op .no q52 .loc (.op .no q5t .loc (.op .no q6o .loc (.op .no qi8 .loc qje)))))) (.seq (.seq (.rg (.op .no q9c .loc (.op .no q1f q7a .fin))) (.cond q7b (.exit 3) .skip)) (.seq (.rg (.op .no q28 .loc (.op .no q5t .loc (.op .no q6o .loc (.op .no (.call qi [qt, qc]) .loc (.op .no q70 q3t (.op .no (.st 3 q3v qc) .non .fin))))))) (.seq (.seq (.rg (.op .no q34 .loc (.op .no q6q .loc (.op .no q87 .loc (.op .no qm .loc (.op .no qa2 q7l .fin)))))) (.cond q7n (.seq (.rg (.op .no qkt .loc (.op .no q6q .loc (.op .no q34 .loc (.op .no q6q .loc (.op .no (.ld 3 true q3v) .loc qh0)))))) (.rg (.op .no q8n .loc (.op .no q6q .loc (.op .no q97 .loc (.op .no q9d .loc q8y)))))) .skip)) (.seq (.rgd (.op .no (.soft qkt) .loc (.op .no qgy .loc (.op .no qfd .loc (.op .no q9p .loc (.op .no qin .loc (.op .no qgz q66 .fin)))))) 0) (.cond q67 (.seq (.rg (.op .no q8x qj (.op .no (.mv (.lit (.int .i64 (.ofNat 11)))) qz .fin))) .ret) .skip)))))))) (.rg (.op .no (.bin .add 5 q4a qg) .loc q5y))))))))))))))) (.seq (.rg (.op .no qkt .loc (.op .no qu qj q5d))) .ret)))))))))
theorem ck182 : compF Tryz.prog xi182 = some cf182 := by kernel_rfl
noncomputable def xi183 := xiM 183 f183 65619
theorem xk183 : TOK xi183 := tabOK1 func183 (by kernel_rfl) (by kernel_rfl) rfl rfl
noncomputable def cf183 : FnC := (.mk 65619 27 q3f (.seq (.rg qby) (.seq qku (.seq (.seq (.rg (.op .no q4s .loc (.op .no qb .loc (.op .no (.gen (.call (Call.mk (Callee.builtin Builtin.cap) (Array.mk [(.tmp 9)]) (Array.mk [32]))) (rfC 65619 [9, 8])) .loc qkv)))) (.seq qkw (.cond q1d (.rg (.op .no qb .loc (.op .no qb .loc (.op .no (.gen (.call (Call.mk (Callee.builtin Builtin.cap) (Array.mk [(.tmp 18)]) (Array.mk [32]))) (rfC 65619 [18, 17])) .loc (.op .no (.gen (.slice 32 (.tmp 17) Option.none (Option.some (.tmp 19)) Option.none) (rfC 65619 [19, 18, 17])) .loc (.op .no q4s .loc (.op .no (.gen (.call (Call.mk (Callee.builtin Builtin.append) (Array.mk [(.tmp 20), (.tmp 21)]) (Array.mk [32, 3]))) (rfC 65619 [21, 20, 19, 18, 17])) .loc (.op .no qb .loc (.op .no q1x .loc (.op .no (.gen (.slice 32 (.tmp 22) Option.none (Option.some (.tmp 24)) Option.none) (rfC 65619 [24, 23, 22, 21, 20, 19, 18, 17])) .loc q8u)))))))))) .skip))) qkx))))
theorem ck183 : compF Tryz.prog xi183 = some cf183 := by kernel_rfl
noncomputable def xi184 := xiM 184 f184 21
theorem xk184 : TOK xi184 := tabOK1 func184 (by kernel_rfl) (by kernel_rfl) rfl rfl
noncomputable def cf184 : FnC := (.mk 21 8 q1 (.seq qbn (.seq (.seq (.rg (.op .no qb .loc (.op .no (.bin .eql 38 qc q6g) qj .fin))) qj0) (.seq (.rg (.op .no (.bsl 3 0 1 []) .loc (.op .no qb .loc (.op .no (.app 38 3 1 8 qt qc) .loc q3e)))) .ret))))
theorem ck184 : compF Tryz.prog xi184 = some cf184 := by kernel_rfl
noncomputable def xi185 := xiM 185 f185 42535296023574879666274036850519702559
theorem xk185 : TOK xi185 := tabOK1 func185 (by kernel_rfl) (by kernel_rfl) rfl rfl
noncomputable def cf185 : FnC := (.mk 42535296023574879666274036850519702559 148 qb3 (.seq qhs (.seq qky (.block 0 (.loop (.block 1 (.seq ql0 (.seq (.seq ql1 (.cond q5n (.seq (.rg (.op .no qb .loc (.op .no q4s .loc (.op .no q80 .loc (.op .no q1e .loc ql2))))) .ret) .skip)) (.seq (.seq ql3 (.cond q7b (.seq (.rg (.op .no qb .loc (.op .no q4s .loc (.op .no q80 .loc (.op .no q1e .loc (.op .no (.call (.lit (.clo 254 [])) [qf, qi, qt, qc]) .loc .fin)))))) .ret) .skip)) (.seq (.seq ql4 (.cond q7n (.seq (.rg (.op .no qb .loc (.op .no q4s .loc (.op .no q80 .loc (.op .no q1e .loc (.op .no (.call (.lit (.clo 255 [])) [qf, qi, qt, qc]) .loc .fin)))))) qh9) .skip)) (.seq (.rg (.op .no qb .loc (.op .no q4s .loc (.op .no q80 .loc (.op .no q1e .loc (.op .no (.call (.lit (.clo 256 [])) [qf, qi, qt, qc]) .loc qi9)))))) (.seq (.seq ql5 (.cond q67 (.seq (.rg (.op .no qb .loc (.op .no q4s .loc (.op .no q80 .loc (.op .no q1e .loc (.op .no (.call (.lit (.clo 257 [])) [qf, qi, qt, qc]) .loc .fin)))))) ql6) .skip)) (.seq (.seq ql7 (.cond q6d (.seq (.rg (.op .no qb .loc (.op .no q4s .loc (.op .no q80 .loc (.op .no q1e .loc (.op .no (.call (.lit (.clo 258 [])) [qf, qi, qt, qc]) q6j .fin)))))) ql8) .skip)) (.seq (.seq (.rgd (.op .no qbf .loc (.op .no qgm .loc (.op .no qv .loc (.op q2k q54 .loc (.op q2m qfg .loc (.op q2n qbf .loc (.op q2o qgn .loc (.op q8p qgo .loc (.op qdv qgs .loc (.op qdw qfg .loc (.op q2r q9s .loc (.op q2v qa4 .loc (.op qel qgs .loc ql9))))))))))))) 0) (.cond q6s (.seq (.rg (.op .no qb .loc (.op .no q4s .loc (.op .no q80 .loc (.op .no q8n .loc (.op .no q1e .loc (.op .no (.call (.lit (.clo 259 [])) [q1p, qf, qi, qt, qc]) .loc q6n))))))) qla) .skip)) (.seq (.rg (.op .no qb .loc (.op .no q4s .loc (.op .no q80 .loc (.op .no q8n .loc (.op .no q1e .loc (.op .no (.call (.lit (.clo 260 [])) [q1p, qf, qi, qt, qc]) .loc qje))))))) (.seq qlb (.seq qlc (.seq qld (.seq qle (.cond q6v (.seq qlg (.seq (.rg (.op .no qb .loc (.op .no q4s .loc (.op .no q6q .loc (.op .no q8l .loc (.op .no q1e .loc (.op .no (.call qiy [q1p, qf, qi, qt, qc]) .loc .fin))))))) qlh)) (.seq qli (.seq (.rg (.op .no qb .loc (.op .no q6q .loc (.op .no q36 .loc (.op .no q80 .loc (.op .no q8l .loc (.op .no q1e .loc (.op .no (.call qiy [q1s, qf, qi, qt, qc]) .loc .fin)))))))) qlj))))))))))))))))))))))
theorem ck185 : compF Tryz.prog xi185 = some cf185 := by kernel_rfl
noncomputable def xi187 := xiM 187 f187 136323135
theorem xk187 : TOK xi187 := tabOK1 func187 (by kernel_rfl) (by kernel_rfl) rfl rfl
noncomputable def cf187 : FnC := (.mk 136323135 33 qfv (.seq (.rg (.op .no qcj qj (.op .no (.box 243 q0) qz q4w))) (.seq (.seq (.rg (.op .no qi7 .loc (.op .no q92 .loc (.op .no q1f .loc (.op .no qu .loc (.op q1g qcc .loc (.op q1i (.call (.lit (.clo 261 [])) [qc]) .loc (.op q1k q1f .loc (.op .no q4h q22 .fin))))))))) (.cond q33 qkf .skip)) (.seq (.seq (.rgd (.op .no (.hard (.call (.lit (.clo 262 [])) [])) .loc (.op .no q9i .loc (.op .no (.softw qm 1 (.load 63 (.tmp 15)) (rfR 136323135 [15, 14] [15])) .loc (.op .no (.soft (.gen (.index 371 (.tmp 14) (.tmp 16)) (rfR 136323135 [16, 15, 14] [14, 16]))) .loc (.op .no (.soft (.gen (.field 370 (.tmp 17) 0) (rfR 136323135 [17, 16, 15, 14] [17]))) .loc (.op .no (.softw qcc 1 (.load 243 (.tmp 3)) (rfR 136323135 [18, 17, 16, 15, 14] [3])) .loc (.op .no (.hard (.call qt [qc])) .loc qkd))))))) 0) (.block 0 (.seq (.rg (.op .no q1m .loc (.op .no qg3 .loc (.op .no qm .loc (.op .no qcm .loc (.op .no q9k .loc q39)))))) (.cond q27 qk3 (.seq (.rg (.op .no q1m .loc (.op .no qg3 .loc (.op .no qm .loc (.op .no qcm .loc (.op .no (.bin .gtr 3 qf qc) .loc q8y)))))) (.cond q2i qke .skip)))))) qkf))))
theorem ck187 : compF Tryz.prog xi187 = some cf187 := by kernel_rfl
noncomputable def xi188 := xiM 188 f188 5
theorem xk188 : TOK xi188 := tabOK1 func188 (by kernel_rfl) (by kernel_rfl) rfl rfl
noncomputable def cf188 : FnC := (.mk 5 9 q1 (.seq q5 (.seq (.rg (.op .no qb .loc (.op .no (.bin .lss 3 qc (.lit (.int .i64 (Int.negSucc 16383)))) .loc (.op .no qu .loc (.op q1g qb .loc (.op q1i (.bin .gtr 3 qc (.lit (.int .i64 (.ofNat 16384)))) .loc (.op .no q94 .loc q3e))))))) .ret)))
theorem ck188 : compF Tryz.prog xi188 = some cf188 := by kernel_rfl
noncomputable def xi190 := xiM 190 f190 18014433942971335
theorem xk190 : TOK xi190 := tabOK1 func190 (by kernel_rfl) (by kernel_rfl) rfl rfl
noncomputable def cf190 : FnC := (.mk 18014433942971335 63 qb3 (.seq (.rg (.op .no (.mv (.lit (.int .i64 (.ofNat 20)))) qz .fin)) (.seq (.rg (.op .no q8l .loc qd5)) (.seq (.block 0 (.loop (.seq (.seq (.rg (.op .no q1m .loc (.op .no q4s .loc (.op .no (.bin .leq 3 qt qc) q24 .fin)))) qax) (.block 1 (.seq (.rg (.op .no qb .loc (.op .no q1e .loc (.op .no q1m .loc (.op .no q80 .loc ql2))))) (.seq qlk (.rg (.op .no q1m .loc (.op .no q8l .loc (.op .no qfq .loc q1c)))))))))) (.seq (.rg (.op .no qb .loc (.op .no q1e .loc (.op .no q4s .loc (.op .no q80 .loc ql2))))) (.block 2 (.loop (.seq (.seq (.rg (.op .no q8l .loc qdl)) (.cond q2i .skip q9v)) (.block 3 (.seq (.rg (.op .no q8l .loc (.op .no qcm .loc qd5))) (.seq (.block 4 (.loop (.seq (.seq (.rg (.op .no q1m .loc (.op .no q4s .loc (.op .no (.bin .leq 3 qt qc) qp .fin)))) (.cond qq .skip qa0)) (.block 5 (.seq (.rg (.op .no qb .loc (.op .no q1e .loc (.op .no q1e .loc (.op .no q8l .loc (.op .no qfq .loc (.op .no q1m .loc (.op .no q80 .loc (.op .no (.call (.lit (.clo 265 [])) [q4l, q1s, qi, qt, qc]) .loc .fin))))))))) (.seq qlk (.rg (.op .no q1m .loc (.op .no q8l .loc (.op .no qcm .loc (.op .no qg1 .loc q1c))))))))))) (.seq (.seq (.rg (.op .no q1e .loc (.op .no q8l .loc (.op .no qfq .loc q37)))) (.seq (.rg (.op .no q34 .loc (.op .no q4s .loc (.op .no qdk q1y .fin)))) (.cond q1z (.rg (.op .no qb .loc (.op .no q1e .loc (.op .no q34 .loc (.op .no q4s .loc (.op .no q80 .loc (.op .no (.call (.lit (.clo 265 [])) [q1p, qf, qi, qt, qc]) .loc .fin))))))) .skip))) (.rg (.op .no q8l .loc (.op .no (.bin .mul 3 qc q8) .loc q5g)))))))))))))))
theorem ck190 : compF Tryz.prog xi190 = some cf190 := by kernel_rfl
noncomputable def xi191 := xiM 191 f191 42535296023574879666274036850519702559
theorem xk191 : TOK xi191 := tabOK1 func191 (by kernel_rfl) (by kernel_rfl) rfl rfl
noncomputable def cf191 : FnC := (.mk 42535296023574879666274036850519702559 148 qb3 (.seq qhs (.seq qky (.block 0 (.loop (.block 1 (.seq ql0 (.seq (.seq ql1 (.cond q5n (.seq (.rg (.op .no qb .loc (.op .no q4s .loc (.op .no q80 .loc (.op .no q1e .loc (.op .no (.call (.lit (.clo 266 [])) [qf, qi, qt, qc]) .loc .fin)))))) .ret) .skip)) (.seq (.seq ql3 (.cond q7b (.seq (.rg (.op .no qb .loc (.op .no q4s .loc (.op .no q80 .loc (.op .no q1e .loc (.op .no (.call (.lit (.clo 267 [])) [qf, qi, qt, qc]) .loc .fin)))))) .ret) .skip)) (.seq (.seq ql4 (.cond q7n (.seq (.rg (.op .no qb .loc (.op .no q4s .loc (.op .no q80 .loc (.op .no q1e .loc (.op .no (.call (.lit (.clo 268 [])) [qf, qi, qt, qc]) .loc .fin)))))) qh9) .skip)) (.seq (.rg (.op .no qb .loc (.op .no q4s .loc (.op .no q80 .loc (.op .no q1e .loc (.op .no (.call (.lit (.clo 269 [])) [qf, qi, qt, qc]) .loc qi9)))))) (.seq (.seq ql5 (.cond q67 (.seq (.rg (.op .no qb .loc (.op .no q4s .loc (.op .no q80 .loc (.op .no q1e .loc (.op .no (.call (.lit (.clo 270 [])) [qf, qi, qt, qc]) .loc .fin)))))) ql6) .skip)) (.seq (.seq ql7 (.cond q6d (.seq (.rg (.op .no qb .loc (.op .no q4s .loc (.op .no q80 .loc (.op .no q1e .loc (.op .no (.call (.lit (.clo 271 [])) [qf, qi, qt, qc]) q6j .fin)))))) ql8) .skip)) (.seq (.seq qll (.cond q6s (.seq (.rg (.op .no qb .loc (.op .no q4s .loc (.op .no q80 .loc (.op .no q8n .loc (.op .no q1e .loc (.op .no (.call (.lit (.clo 272 [])) [q1p, qf, qi, qt, qc]) .loc q6n))))))) qla) .skip)) (.seq (.rg (.op .no qb .loc (.op .no q4s .loc (.op .no q80 .loc (.op .no q8n .loc (.op .no q1e .loc (.op .no (.call (.lit (.clo 273 [])) [q1p, qf, qi, qt, qc]) .loc qje))))))) (.seq qlb (.seq qlc (.seq qld (.seq qle (.cond q6v (.seq qlg (.seq (.rg (.op .no qb .loc (.op .no q4s .loc (.op .no q6q .loc (.op .no q8l .loc (.op .no q1e .loc (.op .no (.call qja [q1p, qf, qi, qt, qc]) .loc .fin))))))) qlh)) (.seq qli (.seq (.rg (.op .no qb .loc (.op .no q6q .loc (.op .no q36 .loc (.op .no q80 .loc (.op .no q8l .loc (.op .no q1e .loc (.op .no (.call qja [q1s, qf, qi, qt, qc]) .loc .fin)))))))) qlj))))))))))))))))))))))
theorem ck191 : compF Tryz.prog xi191 = some cf191 := by kernel_rfl
noncomputable def xi192 := xiM 192 f192 5
theorem xk192 : TOK xi192 := tabOK1 func192 (by kernel_rfl) (by kernel_rfl) rfl rfl
noncomputable def cf192 : FnC := (.mk 5 6 q1 (.seq q5 (.seq (.rg (.op .no qb .loc (.op .no qb .loc (.op .no (.bin .neq 5 qt qc) .loc q3e)))) .ret)))
theorem ck192 : compF Tryz.prog xi192 = some cf192 := by kernel_rfl
noncomputable def xi194 := xiM 194 f194 263119
theorem xk194 : TOK xi194 := tabOK1 func194 (by kernel_rfl) (by kernel_rfl) rfl rfl
noncomputable def cf194 : FnC := (.mk 263119 26 (.many [qi2, q62]) (.seq (.rg (.op .no q4d qz (.op .no qd1 q13 q63))) (.seq (.rg (.op .no qcc .loc (.op .no q4s .loc (.op .no q80 .loc (.op .no qi8 .loc qc2))))) (.seq (.seq qlm (.cond q2i (.seq (.rg (.op .no qid .loc (.op .no q28 .loc qln))) .ret) .skip)) (.seq (.rg (.op .no q4s .loc (.op .no q34 .loc (.op .no (.gen (.call (Call.mk (Callee.builtin Builtin.min) (Array.mk [(.tmp 21), (.tmp 22)]) (Array.mk [3, 3]))) (rfC 263119 [22, 21])) .loc (.op .no q80 .loc (.op .no qia .loc (.op .no qib .non q63))))))) .ret)))))
theorem ck194 : compF Tryz.prog xi194 = some cf194 := by kernel_rfl
noncomputable def xi195 := xiM 195 f195 59
theorem xk195 : TOK xi195 := tabOK1 func195 (by kernel_rfl) (by kernel_rfl) rfl rfl
noncomputable def cf195 : FnC := (.mk 59 11 (.many [q5a, qbo]) (.seq (.rg (.op .no qlo qj (.op .no q20 qz (.op .no q3 q13 .fin)))) (.seq (.rg (.op .no qb .loc (.op .no qi7 .loc (.op .no (.call (.lit (.clo 274 [])) [qt, qc, (.lit (.clo 275 []))]) .loc (.op .no qw .loc (.op .no q11 .loc (.op .no q74 qz q3l))))))) .ret)))
theorem ck195 : compF Tryz.prog xi195 = some cf195 := by kernel_rfl
noncomputable def xi196 := xiM 196 f196 23
theorem xk196 : TOK xi196 := tabOK1 func196 (by kernel_rfl) (by kernel_rfl) rfl rfl
noncomputable def cf196 : FnC := (.mk 23 17 qec (.seq (.rg (.op .no q4d qj qjk)) (.seq (.rg (.op .no q4s .loc (.op .no q9u .loc (.op .no qu .loc (.op q2k q4s .loc (.op q2m q9h .loc (.op q2n qm .loc (.op q2o q4x .loc (.op q8p qg3 .loc (.op qdv qm .loc (.op qdw q4j .loc (.op q2r (.bin .lss 3 q4l qc) .loc (.op .no (.pick q2u qc q2) .loc q5g))))))))))))) .ret)))
theorem ck196 : compF Tryz.prog xi196 = some cf196 := by kernel_rfl
noncomputable def xi197 := xiM 197 f197 23
theorem xk197 : TOK xi197 := tabOK1 func197 (by kernel_rfl) (by kernel_rfl) rfl rfl
noncomputable def cf197 : FnC := (.mk 23 19 qc7 (.seq (.rg (.op .no q4d qj (.op .no q8k qz .fin))) (.seq (.rgd (.op .no qbf .loc (.op .no qc8 .loc (.op .no q9i .loc (.op .no q5s .loc (.op .no (.soft (.bin .rem 3 qi qc)) .loc (.op .no qbf .loc (.op .no qc8 .loc (.op .no q9i .loc (.op .no q5s .loc (.op .no (.soft (.bin .quo 3 qi qc)) .loc (.op .no qbf .loc (.op .no (.soft qc9) .loc (.op .no (.soft (.gen (.convert 3 5 (.tmp 16)) (rfR 23 [16, 15, 14, 13, 12, 11, 10, 9, 8, 7, 6, 5] [16]))) .loc (.op .no (.soft (.bld [(.mk 0 1 q2u), (.mk 1 1 qf), qaq] [(.int .i64 (.ofNat 0)), (.int .i64 (.ofNat 0)), (.int .u8 (.ofNat 0))])) .loc qcb)))))))))))))) 0) .ret)))
theorem ck197 : compF Tryz.prog xi197 = some cf197 := by kernel_rfl
noncomputable def xi207 := xiM 207 f207 16661
theorem xk207 : TOK xi207 := tabOK1 func207 (by kernel_rfl) (by kernel_rfl) rfl rfl
noncomputable def cf207 : FnC := (.mk 16661 25 q1 (.seq qd9 (.seq (.seq (.rg (.op .no qb .loc (.op .no (.bin .geq 324 qc (.lit (.int .u64 (.ofNat 4294967296)))) qj .fin))) (.cond qk (.seq (.rg (.op .no qb .loc (.op .no (.bin .shr 324 qc (.lit (.int .u64 (.ofNat 32)))) .loc q8u))) (.rg (.op .no (.mv (.lit (.int .i64 (.ofNat 32)))) q4 .fin))) .skip)) (.seq (.seq (.rg (.op .no qb .loc (.op .no (.bin .geq 324 qc (.lit (.int .u64 (.ofNat 65536)))) qz .fin))) (.cond q10 (.seq (.rg (.op .no qb .loc (.op .no (.bin .shr 324 qc (.lit (.int .u64 (.ofNat 16)))) .loc q8u))) (.rg (.op .no q4s .loc (.op .no (.bin .add 3 qc (.lit (.int .i64 (.ofNat 16)))) .loc q3e)))) .skip)) (.seq (.seq (.rg (.op .no qb .loc (.op .no (.bin .geq 324 qc (.lit (.int .u64 (.ofNat 256)))) q13 .fin))) (.cond q1d (.seq (.rg (.op .no qb .loc (.op .no (.bin .shr 324 qc (.lit (.int .u64 (.ofNat 8)))) .loc q8u))) (.rg (.op .no q4s .loc (.op .no (.bin .add 3 qc qj2) .loc q3e)))) .skip)) (.seq (.rg (.op .no q4s .loc (.op .no qb .loc (.op .no (.gen (.convert 324 5 (.tmp 20)) (rfC 16661 [20, 19])) .loc (.op .no (.gen (.index 9 (.const (.string (ByteArray.mk (Array.mk [(UInt8.ofNat 0), (UInt8.ofNat 1), (UInt8.ofNat 2), (UInt8.ofNat 2), (UInt8.ofNat 3), (UInt8.ofNat 3), (UInt8.ofNat 3), (UInt8.ofNat 3), (UInt8.ofNat 4), (UInt8.ofNat 4), (UInt8.ofNat 4), (UInt8.ofNat 4), (UInt8.ofNat 4), (UInt8.ofNat 4), (UInt8.ofNat 4), (UInt8.ofNat 4), (UInt8.ofNat 5), (UInt8.ofNat 5), (UInt8.ofNat 5), (UInt8.ofNat 5), (UInt8.ofNat 5), (UInt8.ofNat 5), (UInt8.ofNat 5), (UInt8.ofNat 5), (UInt8.ofNat 5), (UInt8.ofNat 5), (UInt8.ofNat 5), (UInt8.ofNat 5), (UInt8.ofNat 5), (UInt8.ofNat 5), (UInt8.ofNat 5), (UInt8.ofNat 5), (UInt8.ofNat 6), (UInt8.ofNat 6), (UInt8.ofNat 6), (UInt8.ofNat 6), (UInt8.ofNat 6), (UInt8.ofNat 6), (UInt8.ofNat 6), (UInt8.ofNat 6), (UInt8.ofNat 6), (UInt8.ofNat 6), (UInt8.ofNat 6), (UInt8.ofNat 6), (UInt8.ofNat 6), (UInt8.ofNat 6), (UInt8.ofNat 6), (UInt8.ofNat 6), (UInt8.ofNat 6), (UInt8.ofNat 6), (UInt8.ofNat 6), (UInt8.ofNat 6), (UInt8.ofNat 6), (UInt8.ofNat 6), (UInt8.ofNat 6), (UInt8.ofNat 6), (UInt8.ofNat 6), (UInt8.ofNat 6), (UInt8.ofNat 6), (UInt8.ofNat 6), (UInt8.ofNat 6), (UInt8.ofNat 6), (UInt8.ofNat 6), (UInt8.ofNat 6), (UInt8.ofNat 7), (UInt8.ofNat 7), (UInt8.ofNat 7), (UInt8.ofNat 7), (UInt8.ofNat 7), (UInt8.ofNat 7), (UInt8.ofNat 7), (UInt8.ofNat 7), (UInt8.ofNat 7), (UInt8.ofNat 7), (UInt8.ofNat 7), (UInt8.ofNat 7), (UInt8.ofNat 7), (UInt8.ofNat 7), (UInt8.ofNat 7), (UInt8.ofNat 7), (UInt8.ofNat 7), (UInt8.ofNat 7), (UInt8.ofNat 7), (UInt8.ofNat 7), (UInt8.ofNat 7), (UInt8.ofNat 7), (UInt8.ofNat 7), (UInt8.ofNat 7), (UInt8.ofNat 7), (UInt8.ofNat 7), (UInt8.ofNat 7), (UInt8.ofNat 7), (UInt8.ofNat 7), (UInt8.ofNat 7), (UInt8.ofNat 7), (UInt8.ofNat 7), (UInt8.ofNat 7), (UInt8.ofNat 7), (UInt8.ofNat 7), (UInt8.ofNat 7), (UInt8.ofNat 7), (UInt8.ofNat 7), (UInt8.ofNat 7), (UInt8.ofNat 7), (UInt8.ofNat 7), (UInt8.ofNat 7), (UInt8.ofNat 7), (UInt8.ofNat 7), (UInt8.ofNat 7), (UInt8.ofNat 7), (UInt8.ofNat 7), (UInt8.ofNat 7), (UInt8.ofNat 7), (UInt8.ofNat 7), (UInt8.ofNat 7), (UInt8.ofNat 7), (UInt8.ofNat 7), (UInt8.ofNat 7), (UInt8.ofNat 7), (UInt8.ofNat 7), (UInt8.ofNat 7), (UInt8.ofNat 7), (UInt8.ofNat 7), (UInt8.ofNat 7), (UInt8.ofNat 7), (UInt8.ofNat 7), (UInt8.ofNat 7), (UInt8.ofNat 7), (UInt8.ofNat 8), (UInt8.ofNat 8), (UInt8.ofNat 8), (UInt8.ofNat 8), (UInt8.ofNat 8), (UInt8.ofNat 8), (UInt8.ofNat 8), (UInt8.ofNat 8), (UInt8.ofNat 8), (UInt8.ofNat 8), (UInt8.ofNat 8), (UInt8.ofNat 8), (UInt8.ofNat 8), (UInt8.ofNat 8), (UInt8.ofNat 8), (UInt8.ofNat 8), (UInt8.ofNat 8), (UInt8.ofNat 8), (UInt8.ofNat 8), (UInt8.ofNat 8), (UInt8.ofNat 8), (UInt8.ofNat 8), (UInt8.ofNat 8), (UInt8.ofNat 8), (UInt8.ofNat 8), (UInt8.ofNat 8), (UInt8.ofNat 8), (UInt8.ofNat 8), (UInt8.ofNat 8), (UInt8.ofNat 8), (UInt8.ofNat 8), (UInt8.ofNat 8), (UInt8.ofNat 8), (UInt8.ofNat 8), (UInt8.ofNat 8), (UInt8.ofNat 8), (UInt8.ofNat 8), (UInt8.ofNat 8), (UInt8.ofNat 8), (UInt8.ofNat 8), (UInt8.ofNat 8), (UInt8.ofNat 8), (UInt8.ofNat 8), (UInt8.ofNat 8), (UInt8.ofNat 8), (UInt8.ofNat 8), (UInt8.ofNat 8), (UInt8.ofNat 8), (UInt8.ofNat 8), (UInt8.ofNat 8), (UInt8.ofNat 8), (UInt8.ofNat 8), (UInt8.ofNat 8), (UInt8.ofNat 8), (UInt8.ofNat 8), (UInt8.ofNat 8), (UInt8.ofNat 8), (UInt8.ofNat 8), (UInt8.ofNat 8), (UInt8.ofNat 8), (UInt8.ofNat 8), (UInt8.ofNat 8), (UInt8.ofNat 8), (UInt8.ofNat 8), (UInt8.ofNat 8), (UInt8.ofNat 8), (UInt8.ofNat 8), (UInt8.ofNat 8), (UInt8.ofNat 8), (UInt8.ofNat 8), (UInt8.ofNat 8), (UInt8.ofNat 8), (UInt8.ofNat 8), (UInt8.ofNat 8), (UInt8.ofNat 8), (UInt8.ofNat 8), (UInt8.ofNat 8), (UInt8.ofNat 8), (UInt8.ofNat 8), (UInt8.ofNat 8), (UInt8.ofNat 8), (UInt8.ofNat 8), (UInt8.ofNat 8), (UInt8.ofNat 8), (UInt8.ofNat 8), (UInt8.ofNat 8), (UInt8.ofNat 8), (UInt8.ofNat 8), (UInt8.ofNat 8), (UInt8.ofNat 8), (UInt8.ofNat 8), (UInt8.ofNat 8), (UInt8.ofNat 8), (UInt8.ofNat 8), (UInt8.ofNat 8), (UInt8.ofNat 8), (UInt8.ofNat 8), (UInt8.ofNat 8), (UInt8.ofNat 8), (UInt8.ofNat 8), (UInt8.ofNat 8), (UInt8.ofNat 8), (UInt8.ofNat 8), (UInt8.ofNat 8), (UInt8.ofNat 8), (UInt8.ofNat 8), (UInt8.ofNat 8), (UInt8.ofNat 8), (UInt8.ofNat 8), (UInt8.ofNat 8), (UInt8.ofNat 8), (UInt8.ofNat 8), (UInt8.ofNat 8), (UInt8.ofNat 8), (UInt8.ofNat 8), (UInt8.ofNat 8), (UInt8.ofNat 8), (UInt8.ofNat 8), (UInt8.ofNat 8), (UInt8.ofNat 8), (UInt8.ofNat 8), (UInt8.ofNat 8), (UInt8.ofNat 8), (UInt8.ofNat 8), (UInt8.ofNat 8), (UInt8.ofNat 8), (UInt8.ofNat 8), (UInt8.ofNat 8)])))) (.tmp 21)) (rfC 16661 [21, 20, 19])) .loc (.op .no (.gen (.convert 5 3 (.tmp 22)) (rfC 16661 [22, 21, 20, 19])) .loc (.op .no (.bin .add 3 q1p qc) .loc q3e))))))) .ret))))))
theorem ck207 : compF Tryz.prog xi207 = some cf207 := by kernel_rfl
noncomputable def xi208 := xiM 208 f208 66483
theorem xk208 : TOK xi208 := tabOK1 func208 (by kernel_rfl) (by kernel_rfl) rfl rfl
noncomputable def cf208 : FnC := (.mk 66483 19 q3f (.seq q4b (.seq (.seq qjs (.block 0 (.loop (.seq qjt (.seq qh1 (.seq (.block 1 (.seq qju (.seq (.rg (.op .no q4s .loc (.op .no qb .loc (.op .no q8l .loc (.op .no q87 .loc (.op .no qm .loc qjv)))))) qjx))) qjy)))))) qdh)))
theorem ck208 : compF Tryz.prog xi208 = some cf208 := by kernel_rfl
noncomputable def xi209 := xiM 209 f209 137439154655
theorem xk209 : TOK xi209 := tabOK1 func209 (by kernel_rfl) (by kernel_rfl) rfl rfl
noncomputable def cf209 : FnC := (.mk 137439154655 42 qb3 (.seq (.seq (.rg (.op .no qlp .loc (.op .no qb .loc (.op .no q87 .loc (.op .no qm q2h .fin))))) (.cond q2i .ret .skip)) (.seq (.rg (.op .no qlp .loc (.op .no qb .loc (.op .no q87 .loc qgw)))) (.seq (.rg (.op .no qd0 qp .fin)) (.block 0 (.loop (.seq (.rg (.op .no (.bin .lss 5 qq qbk) q1y .fin)) (.seq qgd (.seq (.block 1 (.seq (.rg (.op .no q5t .loc q1c)) (.seq (.rg (.op .no q9h .loc (.op .no q50 .loc (.op .no q50 .loc (.op .no q52 .loc (.op .no qb .loc (.op .no q1m .loc (.op .no qi8 .loc qc2)))))))) (.seq (.rg (.op .no q28 .loc (.op .no q3c .loc (.op .no qu .loc (.op q2k qbj .loc (.op q2m qb .loc (.op q2n q1m .loc (.op q2o q34 .loc (.op q8p (.call qf [qi, qt, qc]) .loc (.op .no q8r q2a .fin)))))))))) (.cond q2b (.rg (.op .no qlq .loc (.op .no q34 .loc qjm))) .skip))))) (.rg (.op .no (.bin .add 5 qq qg) .loc q6h)))))))))))
theorem ck209 : compF Tryz.prog xi209 = some cf209 := by kernel_rfl
noncomputable def xi210 := xiM 210 f210 271
theorem xk210 : TOK xi210 := tabOK1 func210 (by kernel_rfl) (by kernel_rfl) rfl rfl
noncomputable def cf210 : FnC := (.mk 271 14 qfv (.seq qbz (.seq (.rg (.op .no qb .loc (.op .no q80 .loc (.op .no q4s .loc qls)))) .ret)))
theorem ck210 : compF Tryz.prog xi210 = some cf210 := by kernel_rfl
noncomputable def xi211 := xiM 211 f211 504373101
theorem xk211 : TOK xi211 := tabOK1 func211 (by kernel_rfl) (by kernel_rfl) rfl rfl
noncomputable def cf211 : FnC := (.mk 504373101 36 q1 (.seq qbn (.seq q4b (.seq qiq (.seq (.rg (.op .no q80 .loc (.op .no (.call (.lit (.clo 281 [])) [q6g, qc]) .loc q3l))) (.seq (.seq qct (.block 2 (.loop (.seq q3x (.seq (.cond q3y .skip q9v) (.seq (.block 3 (.seq qir (.rg (.op .no q1e .loc (.op .no q1m .loc (.op .no (.app 38 3 1 8 qt qc) .loc q3l)))))) q45)))))) qis))))))
theorem ck211 : compF Tryz.prog xi211 = some cf211 := by kernel_rfl
noncomputable def xi212 := xiM 212 f212 271
theorem xk212 : TOK xi212 := tabOK1 func212 (by kernel_rfl) (by kernel_rfl) rfl rfl
noncomputable def cf212 : FnC := (.mk 271 14 qfv (.seq qbz (.seq (.rg (.op .no q80 .loc (.op .no q4s .loc (.op .no qb .loc qls)))) .ret)))
theorem ck212 : compF Tryz.prog xi212 = some cf212 := by kernel_rfl
noncomputable def xi213 := xiM 213 f213 271
theorem xk213 : TOK xi213 := tabOK1 func213 (by kernel_rfl) (by kernel_rfl) rfl rfl
noncomputable def cf213 : FnC := (.mk 271 14 qfv (.seq qbz (.seq (.rg (.op .no q4s .loc (.op .no qb .loc (.op .no q80 .loc qls)))) .ret)))
theorem ck213 : compF Tryz.prog xi213 = some cf213 := by kernel_rfl
noncomputable def xi214 := xiM 214 f214 17295
theorem xk214 : TOK xi214 := tabOK1 func214 (by kernel_rfl) (by kernel_rfl) rfl rfl
noncomputable def cf214 : FnC := (.mk 17295 27 q7x (.seq (.rg (.op .no (.box 91 q10) q13 qfm)) (.seq (.rg (.op .no qb .loc (.op .no (.gen (.makeFunc (Fn.func 215) (Array.mk []) (Array.mk [(.tmp 7)])) (rfC 17295 [10])) .loc (.op .no qjj .loc q37)))) (.seq (.seq (.rg (.op .no q34 .loc (.op .no q95 q24 .fin))) (.cond q27 qlt .skip)) (.seq (.rgd (.op .no qfg .loc (.op .no q85 .loc (.op .no (.mk (.slice 38 (.tmp 17) Option.none (Option.some (.tmp 18)) Option.none) (rfR 17295 [18, 17] [17, 18]) 0 0) .loc (.op .no qbf .loc (.op .no q89 .loc (.op .no qfg .loc (.op .no q85 .loc (.op .no (.mk (.slice 38 (.tmp 22) (Option.some (.tmp 23)) Option.none Option.none) (rfR 17295 [23, 22, 21, 20, 19, 18, 17] [22, 23]) 2 0) .loc (.op .no (.bsl 38 4 1 [q1s, q1p, qf, qc] 4) .loc (.op .no (.hard qlr) .loc qkd)))))))))) 6) .ret)))))
theorem ck214 : compF Tryz.prog xi214 = some cf214 := by kernel_rfl
noncomputable def xi215 := xiM 215 f215 11
theorem xk215 : TOK xi215 := tabOK1 func215 (by kernel_rfl) (by kernel_rfl) rfl rfl
noncomputable def cf215 : FnC := (.mk 11 8 q3f (.seq qj5 (.seq (.rg (.op .no qlp .loc (.op .no qb .loc (.op .no q87 .loc (.op .no qm .loc q3n))))) .ret)))
theorem ck215 : compF Tryz.prog xi215 = some cf215 := by kernel_rfl
noncomputable def xi216 := xiM 216 f216 4195023
theorem xk216 : TOK xi216 := tabOK1 func216 (by kernel_rfl) (by kernel_rfl) rfl rfl
noncomputable def cf216 : FnC := (.mk 4195023 23 qfv (.seq qk2 (.seq (.seq (.rg (.op .no q80 .loc (.op .no q1r q22 .fin))) (.cond q33 qkf .skip)) (.seq (.rg (.op .no qcc .loc (.op .no q4s .loc (.op .no q55 .loc (.op .no (.gen (.field 37 (.tmp 12) 2) (rfC 4195023 [12, 11, 10])) .loc q1c))))) (.seq (.seq (.rg (.op .no q1m .loc (.op .no (.bin .eql 5 qc qcz) .loc (.op .no qu .loc (.op q1g q1m .loc (.op q1i (.bin .eql 5 qc qn) .loc (.op .no q94 .loc (.op .no q80 .loc (.op .no q8q .loc (.op .no (.bin .eql 4 qi qc) q24 .fin)))))))))) (.cond q27 qke .skip)) (.seq (.rg (.op .no (.mv q8) q13 .fin)) .ret))))))
theorem ck216 : compF Tryz.prog xi216 = some cf216 := by kernel_rfl
end
end Go.Proofs.YtmhhmaopnjfcgaaGreatDoor.V.I
namespace Go.Proofs.YtmhhmaopnjfcgaaGreatDoor.V.I
open Go Go.Proofs.Tryz
noncomputable section
set_option maxRecDepth 100000
noncomputable def xi217 := xiM 217 f217 1099545314135
theorem xk217 : TOK xi217 := tabOK1 func217 (by kernel_rfl) (by kernel_rfl) rfl rfl
noncomputable def cf217 : FnC := (.mk 1099545314135 59 qc7 (.seq (.rg (.op .no qie qj (.op .no q8k qz .fin))) (.seq (.seq (.rg (.op .no q4s .loc (.op .no q1r q13 .fin))) (.cond q1d (.seq (.seq (.rg (.op .no qih .loc qcl)) (.block 0 (.seq (.rg (.op .no (.bin .eql 5 q1l qcz) .loc q37)) (.cond q33 (.seq (.rg (.op .no q9h .loc (.op .no qm .loc (.op .no qg3 .loc (.op .no qm .loc (.op .no q9t .loc (.op .no (.bld [qer, q42, (.mk 2 1 qn)] [(.int .i64 (.ofNat 0)), (.int .i64 (.ofNat 0)), (.int .u8 (.ofNat 0))]) .loc qlu))))))) .ret) (.seq (.rg (.op .no (.bin .eql 5 q1l qg) .loc q39)) (.cond q27 (.seq (.rg (.op .no q9h .loc (.op .no qm .loc (.op .no q36 .loc (.op .no qg3 .loc (.op .no qm .loc (.op .no (.bld [q41, q42, (.mk 2 1 qbk)] [(.int .i64 (.ofNat 0)), (.int .i64 (.ofNat 0)), (.int .u8 (.ofNat 0))]) .loc qlu))))))) .ret) (.seq (.rg (.op .no (.bin .eql 5 q1l qn) .loc q8y)) (.cond q2i (.seq (.rg (.op .no q9h .loc (.op .no qm .loc (.op .no qg3 .loc (.op .no qm .loc (.op .no q36 .loc (.op .no (.bld [qer, q42, (.mk 2 1 qcz)] [(.int .i64 (.ofNat 0)), (.int .i64 (.ofNat 0)), (.int .u8 (.ofNat 0))]) .loc qlu))))))) .ret) .skip)))))))) (.seq (.rg (.op .no q9h .loc (.op .no qm .loc (.op .no q9t .loc (.op .no qg3 .loc (.op .no qm .loc (.op .no (.bld [q41, q42, qh] [(.int .i64 (.ofNat 0)), (.int .i64 (.ofNat 0)), (.int .u8 (.ofNat 0))]) .loc qlu))))))) .ret)) .skip)) (.seq (.seq (.rg (.op .no q4s .loc (.op .no q8q qp .fin))) (.cond qq (.seq (.rg (.op .no q9h .loc (.op .no qm .loc (.op .no qg3 .loc (.op .no qm .loc (.op .no qih .loc (.op .no qm .loc (.op .no (.bin .add 5 qc qg) .loc qlv)))))))) .ret) .skip)) (.seq (.rg (.op .no q9h .loc (.op .no qm .loc (.op .no qg3 .loc (.op .no qm .loc (.op .no qih .loc (.op .no qm .loc (.op .no (.bin .add 5 qc qbk) .loc qlv)))))))) .ret)))))
theorem ck217 : compF Tryz.prog xi217 = some cf217 := by kernel_rfl
noncomputable def xi218 := xiM 218 f218 8797167550527
theorem xk218 : TOK xi218 := tabOK1 func218 (by kernel_rfl) (by kernel_rfl) rfl rfl
noncomputable def cf218 : FnC := (.mk 8797167550527 65 (.one (.cell 6 true qk)) (.seq (.rg (.op .no qie q4 (.op .no qk8 qj .fin))) (.seq (.rgd (.op .no qfs .loc (.op .no q5s .loc (.op .no qkb .loc (.op .no (.soft q4g) .loc (.op .no q5s .loc (.op .no qkb .loc (.op .no (.soft (.mv qf)) qz q14))))))) 0) (.seq (.rg (.op .no q8l .loc (.op .no (.bin .add 3 qc q17) .loc (.op .no q1e .loc (.op .no (.bin .add 3 qc q17) .loc (.op .no qig .loc qfz)))))) (.seq (.seq (.rg (.op .no qce .loc (.op .no qm q22 .fin))) (.block 0 (.seq (.rg (.op .no (.bin .eql 5 q33 qcz) .loc q39)) (.cond q27 (.seq (.rg (.op .no q91 .loc (.op .no q8l .loc (.op .no q1e .loc (.op .no q4t .loc (.op .no q8l .loc (.op .no qlw .loc (.op .no q1e .loc (.op .no q4t .loc (.op .no (.bld [(.mk 0 2 q2q), (.mk 2 2 q1p), qlx] [(.int .i64 (.ofNat 0)), (.int .i64 (.ofNat 0)), (.int .i64 (.ofNat 0)), (.int .i64 (.ofNat 0)), (.int .i64 (.ofNat 0)), (.int .i64 (.ofNat 0))]) .loc ql)))))))))) .ret) (.seq (.rg (.op .no (.bin .eql 5 q33 qg) .loc q8y)) (.cond q2i (.seq (.rg (.op .no q91 .loc (.op .no q8l .loc (.op .no qlw .loc (.op .no q1e .loc (.op .no q4t .loc (.op .no q8l .loc (.op .no qlw .loc (.op .no q1e .loc (.op .no qlw .loc (.op .no qig .loc (.op .no (.bld [(.mk 0 2 qap), (.mk 2 2 q1s), qlx] [(.int .i64 (.ofNat 0)), (.int .i64 (.ofNat 0)), (.int .i64 (.ofNat 0)), (.int .i64 (.ofNat 0)), (.int .i64 (.ofNat 0)), (.int .i64 (.ofNat 0))]) .loc ql)))))))))))) .ret) (.seq (.rg (.op .no (.bin .eql 5 q33 qn) .loc q6h)) (.cond qq (.seq (.rg (.op .no q91 .loc (.op .no q8l .loc (.op .no qlw .loc (.op .no q1e .loc (.op .no qlw .loc (.op .no qig .loc (.op .no q8l .loc (.op .no q1e .loc (.op .no qlw .loc (.op .no qig .loc (.op .no (.bld [(.mk 0 2 qap), (.mk 2 2 q1p), qlx] [(.int .i64 (.ofNat 0)), (.int .i64 (.ofNat 0)), (.int .i64 (.ofNat 0)), (.int .i64 (.ofNat 0)), (.int .i64 (.ofNat 0)), (.int .i64 (.ofNat 0))]) .loc ql)))))))))))) .ret) .skip)))))))) (.seq (.rg (.op .no q91 .loc (.op .no q8l .loc (.op .no q1e .loc (.op .no qlw .loc (.op .no qig .loc (.op .no q8l .loc (.op .no q1e .loc (.op .no q4t .loc (.op .no (.bld [(.mk 0 2 q2q), (.mk 2 2 qf), qlx] [(.int .i64 (.ofNat 0)), (.int .i64 (.ofNat 0)), (.int .i64 (.ofNat 0)), (.int .i64 (.ofNat 0)), (.int .i64 (.ofNat 0)), (.int .i64 (.ofNat 0))]) .loc ql)))))))))) .ret))))))
theorem ck218 : compF Tryz.prog xi218 = some cf218 := by kernel_rfl
noncomputable def xi219 := xiM 219 f219 147
theorem xk219 : TOK xi219 := tabOK1 func219 (by kernel_rfl) (by kernel_rfl) rfl rfl
noncomputable def cf219 : FnC := (.mk 147 10 q3f (.seq q4b (.seq (.seq (.rg (.op .no qb .loc (.op .no q4s .loc (.op .no qdm qz .fin)))) (.cond q10 qkx .skip)) (.seq (.rg (.op .no q4s .loc q3n)) .ret))))
theorem ck219 : compF Tryz.prog xi219 = some cf219 := by kernel_rfl
noncomputable def xi220 := xiM 220 f220 4956738642830796146778615803
theorem xk220 : TOK xi220 := tabOK1 func220 (by kernel_rfl) (by kernel_rfl) rfl rfl
noncomputable def cf220 : FnC := (.mk 4956738642830796146778615803 93 qec (.seq (.rg (.op .no (.box 26 q0) qj q5d)) (.seq (.seq (.rg (.op .no qi7 .loc (.op .no qjf .loc q3l))) (.seq (.rg (.op .no q1e .loc q8z)) (.cond q3v qly .skip))) (.seq (.rg (.op .no qi7 .loc (.op .no qha .loc (.op .no (.alloc 3 [(.int .i64 (.ofNat 0))]) q1b qks)))) (.seq (.seq (.rg (.op .no qb q3w (.op .no (.len q3y) q49 (.op .no q20 q5l .fin)))) (.block 0 (.loop (.seq qc4 (.seq (.cond q7b .skip q2c) (.seq (.block 1 (.seq (.rg (.op .no q75 .loc (.op .no (.ias 4 q3y q5n) .loc qcu))) (.seq (.rg (.op .no (.fadr 3 q27) .loc (.op .no qm .loc (.op .no (.gen (.makeFunc (Fn.func 282) (Array.mk []) (Array.mk [(.tmp 6)])) (rfC 4956738642830796146778615803 [31, 30])) .loc (.op .no qea .loc q8y))))) (.seq (.rgd (.op .no (.soft (.fadr 0 q27)) .loc (.op .no q9p .loc (.op .no (.hard qj7) .loc (.op .no (.soft q1f) .loc (.op .no qv .loc (.op q1g q85 .loc (.op q1i qgm .loc (.op q1k qv .loc (.op q2k qfg .loc (.op q2m q85 .loc (.op q2n qgn .loc (.op q2o qgo .loc (.op q8p q51 .loc (.op qdv q9p .loc (.op qdw (.soft (.fadr 0 q27)) .loc (.op q2r q9p .loc (.op q2v (.hard qiz) .loc (.op qel (.soft q9u) .loc (.op (.yes (.loc q2x) false) qem .loc (.op .no (.soft (.pick (.loc (.s q2x)) q1t qc)) .loc (.op .no qv .loc (.op q1g (.soft (.fadr 3 q27)) .loc (.op q1i q5s .loc (.op q1k (.soft q1x) .loc (.op q1n (.soft q1r) .loc (.op .no (.soft qdr) .loc (.op .no qv .loc (.op q1g q9s .loc (.op .no (.soft (.pick qt q1t qc)) q7l .fin))))))))))))))))))))))))))))) 0) (.cond q7n (.seq qgk .ret) .skip))))) qc6)))))) (.seq (.rg (.op .no qkt .loc (.op .no (.gen (.makeSlice 91 (.tmp 64) (.tmp 64)) (rfC 4956738642830796146778615803 [64])) .loc q6h))) (.seq (.rg (.op .no q20 q1y .fin)) (.seq (.seq (.rg (.op .no qb q66 (.op .no (.len q67) q6c (.op .no q20 q6j .fin)))) (.block 2 (.loop (.seq (.rg (.op .no (.bin .lss 3 q6l q6d) q6r .fin)) (.seq (.cond q6s .skip q9v) (.seq (.block 3 (.seq (.rg (.op .no (.ias 4 q67 q6l) .loc (.op .no q9m .loc (.op .no q9n q2a (.op .no (.st 4 q2b qc) .non .fin))))) (.seq (.rg (.op .no (.fadr 3 q2b) .loc (.op .no qm q6u qhm))) (.block 4 (.loop (.seq qhn (.seq (.cond q7h .skip qa0) (.seq (.block 5 (.seq (.rg (.op .no (.ias 1 q6v q7e) .loc (.op .no qm .loc q9b))) (.seq (.seq (.rg (.op .no q5t .loc (.op .no q9c .loc (.op .no q87 .loc (.op .no qm q7o .fin))))) (.cond q7p (.seq (.rg (.op .no (.mv qj2) qz .fin)) .ret) .skip)) (.seq (.rg (.op .no q5t .loc (.op .no q9c .loc (.op .no q87 .loc qgw)))) (.rg (.op .no q6o .loc (.op .no q36 .loc q6n))))))) qhv)))))))) (.rg (.op .no (.bin .add 3 q6l q35) .loc qf7)))))))) (.seq (.seq (.rg (.op .no q6o .loc (.op .no qkt .loc (.op .no qdk q7q .fin)))) (.cond q7r (.seq (.rg (.op .no (.mv q9) qz .fin)) .ret) .skip)) (.seq (.rg q5d) .ret))))))))))
theorem ck220 : compF Tryz.prog xi220 = some cf220 := by kernel_rfl
noncomputable def xi221 := xiM 221 f221 23
theorem xk221 : TOK xi221 := tabOK1 func221 (by kernel_rfl) (by kernel_rfl) rfl rfl
noncomputable def cf221 : FnC := (.mk 23 12 qec (.seq (.rg qjk) (.seq (.rgd (.op .no (.soft qlp) .loc (.op .no qfg .loc (.op .no qfd .loc (.op .no q9p .loc (.op .no q9i .loc (.op .no q9p .loc (.op .no (.soft (.bin .neq 37 qi qc)) .loc q8g))))))) 0) .ret)))
theorem ck221 : compF Tryz.prog xi221 = some cf221 := by kernel_rfl
noncomputable def xi222 := xiM 222 f222 8390903
theorem xk222 : TOK xi222 := tabOK1 func222 (by kernel_rfl) (by kernel_rfl) rfl rfl
noncomputable def cf222 : FnC := (.mk 8390903 49 q7x (.seq (.rg (.op .no q7y qz (.op .no (.box 37 qk) q13 (.op .no (.mv qlz) q1b .fin)))) (.seq (.seq (.rg (.op .no qbu .loc (.op .no q7z .loc (.op .no (.call (.lit (.clo 106 [])) [qt, qc]) .loc (.op .no qdu q24 .fin))))) (.cond q27 (.rg (.op .no q7z .loc (.op .no qbu .loc (.op .no qes .non qbd)))) .skip)) (.seq (.rg (.op .no qbu .loc (.op .no q7z .loc (.op .no (.bld [(.mk 0 3 qt), (.mk 3 3 qc)] [(.int .i64 (.ofNat 0)), (.int .i64 (.ofNat 0)), (.int .u8 (.ofNat 0)), (.int .i64 (.ofNat 0)), (.int .i64 (.ofNat 0)), (.int .u8 (.ofNat 0))]) .loc (.op .no qhj q22 (.op .no (.st 6 q33 qc) .non .fin)))))) (.seq (.seq (.rgd (.op .no qfg .loc (.op .no qhk .loc (.op .no qhl .loc (.op .no q5s .loc (.op .no qm0 .loc (.op .no (.soft (.gen (.lookup 275 (.tmp 20) (.tmp 21) false) (rfR 8390903 [21, 20, 19, 18, 17] [20, 21]))) .loc (.op .no (.soft (.bin .eql 284 qc qlz)) q2h .fin))))))) 0) (.cond q2i (.seq (.rgd (.op .no qfg .loc (.op .no qhk .loc (.op .no qhl .loc (.op .no q5s .loc (.op .no qm0 .loc (.op .no (.soft qbu) .loc (.op .no qbe .loc (.op .no (.soft (.bld [(.mk 0 3 qt), (.mk 3 3 qc)] [(.int .i64 (.ofNat 0)), (.int .i64 (.ofNat 0)), (.int .u8 (.ofNat 0)), (.int .i64 (.ofNat 0)), (.int .i64 (.ofNat 0)), (.int .u8 (.ofNat 0)), (.con (.slice Option.none 0 0)), (.con (.slice Option.none 0 0)), (.con (.slice Option.none 0 0))])) .loc (.op .no (.box 192 qc 0) .loc (.op .no (.hard (.gen (.mapUpdate 275 (.tmp 27) (.tmp 28) (.tmp 32)) (rfR 8390903 [32, 31, 30, 29, 28, 27, 26, 25, 24] [27, 28, 32]))) .non .fin)))))))))) 2) (.rgd (.op .no qfg .loc (.op .no qhk .loc (.op .no (.soft qhi) .loc (.op .no q5s .loc (.op .no qm0 .loc (.op .no (.bsl 281 1 6 [qc] 0) .loc (.op .no (.hard (.app 276 281 6 48 qi qc)) .loc (.op .no qfg .loc (.op .no qhk .loc (.op .no (.soft qhi) .loc (.op .no (.hard (.st 1 qc qf)) .non .fin))))))))))) 2)) .skip)) (.seq (.rgd (.op .no qfg .loc (.op .no qhk .loc (.op .no qhl .loc (.op .no q5s .loc (.op .no qm0 .loc (.op .no (.soft (.gen (.lookup 275 (.tmp 46) (.tmp 47) false) (rfR 8390903 [47, 46, 45, 44, 43] [46, 47]))) .loc qkd)))))) 0) .ret))))))
theorem ck222 : compF Tryz.prog xi222 = some cf222 := by kernel_rfl
noncomputable def xi223 := xiM 223 f223 42535296023574879666274036850519702559
theorem xk223 : TOK xi223 := tabOK1 func223 (by kernel_rfl) (by kernel_rfl) rfl rfl
noncomputable def cf223 : FnC := (.mk 42535296023574879666274036850519702559 148 qb3 (.seq qhs (.seq qky (.block 0 (.loop (.block 1 (.seq ql0 (.seq (.seq ql1 (.cond q5n (.seq (.rg (.op .no qb .loc (.op .no q4s .loc (.op .no q80 .loc (.op .no q1e .loc (.op .no (.call (.lit (.clo 283 [])) [qf, qi, qt, qc]) .loc .fin)))))) .ret) .skip)) (.seq (.seq ql3 (.cond q7b (.seq (.rg (.op .no qb .loc (.op .no q4s .loc (.op .no q80 .loc (.op .no q1e .loc (.op .no (.call (.lit (.clo 284 [])) [qf, qi, qt, qc]) .loc .fin)))))) .ret) .skip)) (.seq (.seq ql4 (.cond q7n (.seq (.rg (.op .no qb .loc (.op .no q4s .loc (.op .no q80 .loc (.op .no q1e .loc (.op .no (.call (.lit (.clo 285 [])) [qf, qi, qt, qc]) .loc .fin)))))) qh9) .skip)) (.seq (.rg (.op .no qb .loc (.op .no q4s .loc (.op .no q80 .loc (.op .no q1e .loc (.op .no (.call (.lit (.clo 286 [])) [qf, qi, qt, qc]) .loc qi9)))))) (.seq (.seq ql5 (.cond q67 (.seq (.rg (.op .no qb .loc (.op .no q4s .loc (.op .no q80 .loc (.op .no q1e .loc (.op .no (.call (.lit (.clo 287 [])) [qf, qi, qt, qc]) .loc .fin)))))) ql6) .skip)) (.seq (.seq ql7 (.cond q6d (.seq (.rg (.op .no qb .loc (.op .no q4s .loc (.op .no q80 .loc (.op .no q1e .loc (.op .no (.call (.lit (.clo 288 [])) [qf, qi, qt, qc]) q6j .fin)))))) ql8) .skip)) (.seq (.seq (.rgd (.op .no qbf .loc (.op .no qgm .loc (.op .no qv .loc (.op q2k q54 .loc (.op q2m qfg .loc (.op q2n qbf .loc (.op q2o qgn .loc (.op q8p qm1 .loc (.op qdv qm2 .loc (.op qdw qfg .loc (.op q2r q9s .loc (.op q2v qm3 .loc (.op qel qm2 .loc ql9))))))))))))) 0) (.cond q6s (.seq (.rg (.op .no qb .loc (.op .no q4s .loc (.op .no q80 .loc (.op .no q8n .loc (.op .no q1e .loc (.op .no (.call (.lit (.clo 289 [])) [q1p, qf, qi, qt, qc]) .loc q6n))))))) qla) .skip)) (.seq (.rg (.op .no qb .loc (.op .no q4s .loc (.op .no q80 .loc (.op .no q8n .loc (.op .no q1e .loc (.op .no (.call (.lit (.clo 290 [])) [q1p, qf, qi, qt, qc]) .loc qje))))))) (.seq qlb (.seq qlc (.seq qld (.seq qle (.cond q6v (.seq qlg (.seq (.rg (.op .no qb .loc (.op .no q4s .loc (.op .no q6q .loc (.op .no q8l .loc (.op .no q1e .loc (.op .no (.call qko [q1p, qf, qi, qt, qc]) .loc .fin))))))) qlh)) (.seq qli (.seq (.rg (.op .no qb .loc (.op .no q6q .loc (.op .no q36 .loc (.op .no q80 .loc (.op .no q8l .loc (.op .no q1e .loc (.op .no (.call qko [q1s, qf, qi, qt, qc]) .loc .fin)))))))) qlj))))))))))))))))))))))
theorem ck223 : compF Tryz.prog xi223 = some cf223 := by kernel_rfl
noncomputable def xi224 := xiM 224 f224 19
theorem xk224 : TOK xi224 := tabOK1 func224 (by kernel_rfl) (by kernel_rfl) rfl rfl
noncomputable def cf224 : FnC := (.mk 19 14 qb3 (.seq qiv (.rg (.op .no qb .loc (.op .no q80 .loc (.op .no q80 .loc (.op .no qiw .loc (.op .no qix .loc (.op .no q4s .loc (.op .no (.call qm4 [q1s, q15, q1p, qt, qc]) .loc .fin))))))))))
theorem ck224 : compF Tryz.prog xi224 = some cf224 := by kernel_rfl
noncomputable def xi225 := xiM 225 f225 63
theorem xk225 : TOK xi225 := tabOK1 func225 (by kernel_rfl) (by kernel_rfl) rfl rfl
noncomputable def cf225 : FnC := (.mk 63 23 q7x (.seq (.rg (.op .no (.box 334 qa) qz (.op .no (.box 334 q0) q13 q63))) (.seq (.rgd (.op .no (.soft qbi) .loc (.op .no qhk .loc (.op .no qkm .loc (.op .no q5s .loc (.op .no q4z .loc (.op .no q5s .loc (.op .no qek .loc (.op .no q5s .loc (.op .no (.soft qbi) .loc (.op .no qhk .loc (.op .no qkm .loc (.op .no q5s .loc (.op .no (.soft qfb) .loc (.op .no q5s .loc (.op .no qek .loc (.op .no q5s .loc (.op .no qm5 .loc qkd))))))))))))))))) 0) .ret)))
theorem ck225 : compF Tryz.prog xi225 = some cf225 := by kernel_rfl
noncomputable def xi226 := xiM 226 f226 19
theorem xk226 : TOK xi226 := tabOK1 func226 (by kernel_rfl) (by kernel_rfl) rfl rfl
noncomputable def cf226 : FnC := (.mk 19 14 qb3 (.seq qiv (.rg (.op .no qb .loc (.op .no q80 .loc (.op .no q80 .loc (.op .no qiw .loc (.op .no qix .loc (.op .no q4s .loc (.op .no (.call qm6 [q1s, q15, q1p, qt, qc]) .loc .fin))))))))))
theorem ck226 : compF Tryz.prog xi226 = some cf226 := by kernel_rfl
noncomputable def xi227 := xiM 227 f227 63
theorem xk227 : TOK xi227 := tabOK1 func227 (by kernel_rfl) (by kernel_rfl) rfl rfl
noncomputable def cf227 : FnC := (.mk 63 30 q7x (.seq (.rg (.op .no (.box 195 qa) qz (.op .no (.box 195 q0) q13 q63))) (.seq (.rgd (.op .no q4z .loc (.op .no q5s .loc (.op .no (.soft qfb) .loc (.op .no q5s .loc (.op .no qjp .loc (.op .no (.softw qbi 1 (.load 273 (.tmp 2)) (rfR 63 [10, 9, 8, 7, 6] [2])) .loc (.op .no qhk .loc (.op .no qkm .loc (.op .no (.softw qm 1 (.load 38 (.tmp 13)) (rfR 63 [13, 12, 11, 10, 9, 8, 7, 6] [13])) .loc (.op .no qi5 .loc (.op .no (.softw qm 1 (.load 3 (.tmp 15)) (rfR 63 [15, 14, 13, 12, 11, 10, 9, 8, 7, 6] [15])) .loc (.op .no (.softw q19 1 (.indexAddr 38 (.tmp 14) (.tmp 16)) (rfR 63 [16, 15, 14, 13, 12, 11, 10, 9, 8, 7, 6] [14, 16])) .loc (.op .no (.softw qm 1 (.load 3 (.tmp 17)) (rfR 63 [17, 16, 15, 14, 13, 12, 11, 10, 9, 8, 7, 6] [17])) .loc (.op .no (.softw qbi 1 (.load 273 (.tmp 2)) (rfR 63 [18, 17, 16, 15, 14, 13, 12, 11, 10, 9, 8, 7, 6] [2])) .loc (.op .no qhk .loc (.op .no qkm .loc (.op .no (.softw qm 1 (.load 38 (.tmp 21)) (rfR 63 [21, 20, 19, 18, 17, 16, 15, 14, 13, 12, 11, 10, 9, 8, 7, 6] [21])) .loc (.op .no (.soft (.fadr 1 q1d)) .loc (.op .no (.softw qm 1 (.load 3 (.tmp 23)) (rfR 63 [23, 22, 21, 20, 19, 18, 17, 16, 15, 14, 13, 12, 11, 10, 9, 8, 7, 6] [23])) .loc (.op .no (.softw q19 1 (.indexAddr 38 (.tmp 22) (.tmp 24)) (rfR 63 [24, 23, 22, 21, 20, 19, 18, 17, 16, 15, 14, 13, 12, 11, 10, 9, 8, 7, 6] [22, 24])) .loc (.op .no (.softw qm 1 (.load 3 (.tmp 25)) (rfR 63 [25, 24, 23, 22, 21, 20, 19, 18, 17, 16, 15, 14, 13, 12, 11, 10, 9, 8, 7, 6] [25])) .loc (.op .no qm5 .loc (.op .no (.bsl 3 2 1 [q2y, qc] 0) .loc (.op .no qjq .loc qkd)))))))))))))))))))))))) 2) .ret)))
theorem ck227 : compF Tryz.prog xi227 = some cf227 := by kernel_rfl
noncomputable def xi228 := xiM 228 f228 5
theorem xk228 : TOK xi228 := tabOK1 func228 (by kernel_rfl) (by kernel_rfl) rfl rfl
noncomputable def cf228 : FnC := (.mk 5 11 qb3 (.seq (.rg (.op .no qb .loc (.op .no q1x .loc q3e))) (.rg (.op .no qb .loc (.op .no q4s .loc (.op .no q4s .loc (.op .no (.gen (.convert 3 250 (.tmp 7)) (rfC 5 [7, 6, 5])) .loc (.op .no qix .loc (.op .no (.call qm7 [q1p, q15, qf, qc]) .loc .fin)))))))))
theorem ck228 : compF Tryz.prog xi228 = some cf228 := by kernel_rfl
noncomputable def xi229 := xiM 229 f229 5
theorem xk229 : TOK xi229 := tabOK1 func229 (by kernel_rfl) (by kernel_rfl) rfl rfl
noncomputable def cf229 : FnC := (.mk 5 9 q1 (.seq qbn (.seq (.rg (.op .no qb .loc (.op .no qb .loc (.op .no q1x .loc (.op .no qb .loc (.op .no q1x .loc (.op .no (.gen (.slice 189 (.tmp 3) Option.none (Option.some (.tmp 5)) (Option.some (.tmp 7))) (rfC 5 [7, 6, 5, 4, 3])) .loc q3e))))))) .ret)))
theorem ck229 : compF Tryz.prog xi229 = some cf229 := by kernel_rfl
noncomputable def xi230 := xiM 230 f230 21
theorem xk230 : TOK xi230 := tabOK1 func230 (by kernel_rfl) (by kernel_rfl) rfl rfl
noncomputable def cf230 : FnC := (.mk 21 8 q1 (.seq qbn (.seq (.seq (.rg (.op .no qb .loc (.op .no (.bin .eql 189 qc q6g) qj .fin))) qj0) (.seq (.rg (.op .no (.bsl 334 0 2 []) .loc (.op .no qb .loc (.op .no (.app 189 334 2 16 qt qc) .loc q3e)))) .ret))))
theorem ck230 : compF Tryz.prog xi230 = some cf230 := by kernel_rfl
noncomputable def xi231 := xiM 231 f231 5
theorem xk231 : TOK xi231 := tabOK1 func231 (by kernel_rfl) (by kernel_rfl) rfl rfl
noncomputable def cf231 : FnC := (.mk 5 9 q1 (.seq qbn (.seq (.rg (.op .no qb .loc (.op .no qb .loc (.op .no q1x .loc (.op .no qb .loc (.op .no q1x .loc (.op .no (.gen (.slice 190 (.tmp 3) Option.none (Option.some (.tmp 5)) (Option.some (.tmp 7))) (rfC 5 [7, 6, 5, 4, 3])) .loc q3e))))))) .ret)))
theorem ck231 : compF Tryz.prog xi231 = some cf231 := by kernel_rfl
noncomputable def xi232 := xiM 232 f232 21
theorem xk232 : TOK xi232 := tabOK1 func232 (by kernel_rfl) (by kernel_rfl) rfl rfl
noncomputable def cf232 : FnC := (.mk 21 8 q1 (.seq qbn (.seq (.seq (.rg (.op .no qb .loc (.op .no (.bin .eql 190 qc q6g) qj .fin))) qj0) (.seq (.rg (.op .no (.bsl 195 0 3 []) .loc (.op .no qb .loc (.op .no (.app 190 195 3 24 qt qc) .loc q3e)))) .ret))))
theorem ck232 : compF Tryz.prog xi232 = some cf232 := by kernel_rfl
noncomputable def xi233 := xiM 233 f233 55
theorem xk233 : TOK xi233 := tabOK1 func233 (by kernel_rfl) (by kernel_rfl) rfl rfl
noncomputable def cf233 : FnC := (.mk 55 15 qec (.seq (.rg q5d) (.seq (.rg (.op .no qlp .loc (.op .no qb .loc (.op .no (.call (.lit (.clo 234 [])) [qt, qc]) .loc q3l)))) (.seq (.rg (.op .no qbi .loc (.op .no qu .loc (.op q2k q1e .loc (.op q2m q9u .loc (.op .no q8m .loc qbm)))))) qly))))
theorem ck233 : compF Tryz.prog xi233 = some cf233 := by kernel_rfl
noncomputable def xi234 := xiM 234 f234 66483
theorem xk234 : TOK xi234 := tabOK1 func234 (by kernel_rfl) (by kernel_rfl) rfl rfl
noncomputable def cf234 : FnC := (.mk 66483 19 q3f (.seq q4b (.seq (.seq qjs (.block 0 (.loop (.seq qjt (.seq qh1 (.seq (.block 1 (.seq qju (.seq (.rg (.op .no q4s .loc (.op .no qb .loc (.op .no q8l .loc (.op .no q87 .loc (.op .no qm .loc (.op .no (.bin .eql 3 q1p qc) q24 .fin))))))) qjx))) qjy)))))) qdh)))
theorem ck234 : compF Tryz.prog xi234 = some cf234 := by kernel_rfl
noncomputable def xi235 := xiM 235 f235 66483
theorem xk235 : TOK xi235 := tabOK1 func235 (by kernel_rfl) (by kernel_rfl) rfl rfl
noncomputable def cf235 : FnC := (.mk 66483 19 q3f (.seq q4b (.seq (.seq qjs (.block 0 (.loop (.seq qjt (.seq qh1 (.seq (.block 1 (.seq qju (.seq (.rg (.op .no q4s .loc (.op .no qb .loc (.op .no q8l .loc (.op .no q2e .loc (.op .no q2f .loc qjv)))))) qjx))) qjy)))))) qdh)))
theorem ck235 : compF Tryz.prog xi235 = some cf235 := by kernel_rfl
noncomputable def xi245 := xiM 245 f245 19
theorem xk245 : TOK xi245 := tabOK1 func245 (by kernel_rfl) (by kernel_rfl) rfl rfl
noncomputable def cf245 : FnC := (.mk 19 9 q3f (.seq qj5 (.seq (.rg (.op .no qb .loc (.op .no q4s .loc (.op .no (.call (.lit (.clo 297 [])) [qt, qc]) .loc qj6)))) .ret)))
theorem ck245 : compF Tryz.prog xi245 = some cf245 := by kernel_rfl
noncomputable def xi246 := xiM 246 f246 7
theorem xk246 : TOK xi246 := tabOK1 func246 (by kernel_rfl) (by kernel_rfl) rfl rfl
noncomputable def cf246 : FnC := (.mk 7 7 q3f (.seq (.rg (.op .no qjo q4 qj4)) (.seq (.rg (.op .no qce .loc (.op .no qm .loc (.op .no (.call (.lit (.clo 247 [])) [qc]) .loc (.op .no qa2 .loc q3n))))) .ret)))
theorem ck246 : compF Tryz.prog xi246 = some cf246 := by kernel_rfl
noncomputable def xi247 := xiM 247 f247 5
theorem xk247 : TOK xi247 := tabOK1 func247 (by kernel_rfl) (by kernel_rfl) rfl rfl
noncomputable def cf247 : FnC := (.mk 5 9 q1 (.seq q5 (.seq (.rg (.op .no qb .loc (.op .no (.bin .geq 82 qc qg) .loc (.op .no qu .loc (.op q2k qb .loc (.op q2m (.bin .leq 82 qc qbk) .loc (.op .no q8m .loc q3e))))))) .ret)))
theorem ck247 : compF Tryz.prog xi247 = some cf247 := by kernel_rfl
noncomputable def xi248 := xiM 248 f248 7
theorem xk248 : TOK xi248 := tabOK1 func248 (by kernel_rfl) (by kernel_rfl) rfl rfl
noncomputable def cf248 : FnC := (.mk 7 8 qk7 (.seq (.rg (.op .no qjo q4 (.op .no qd1 qj .fin))) (.seq (.rg (.op .no q3s .loc (.op .no qm .loc (.op .no q4g .loc (.op .no qm .loc (.op .no q43 .loc qk9)))))) .ret)))
theorem ck248 : compF Tryz.prog xi248 = some cf248 := by kernel_rfl
noncomputable def xi249 := xiM 249 f249 543
theorem xk249 : TOK xi249 := tabOK1 func249 (by kernel_rfl) (by kernel_rfl) rfl rfl
noncomputable def cf249 : FnC := (.mk 543 22 qfv (.seq (.rg (.op .no (.box 100 qa) qj (.op .no qlo qz q4w))) (.seq (.seq qkg (.cond q1l (.seq (.rg (.op .no q9h .loc (.op .no qm .loc (.op .no q1v .loc (.op .no qm .loc (.op .no qg2 .loc q3l)))))) .ret) .skip)) (.seq (.rg (.op .no qg3 .loc (.op .no qm .loc (.op .no (.gen (.convert 5 3 (.tmp 16)) (rfC 543 [16, 15])) .loc (.op .no qi4 .loc (.op .no qm .loc (.op .no (.gen (.convert 5 3 (.tmp 19)) (rfC 543 [19, 18, 17, 16, 15])) .loc (.op .no qkc .loc q3l)))))))) .ret))))
theorem ck249 : compF Tryz.prog xi249 = some cf249 := by kernel_rfl
noncomputable def xi250 := xiM 250 f250 30767
theorem xk250 : TOK xi250 := tabOK1 func250 (by kernel_rfl) (by kernel_rfl) rfl rfl
noncomputable def cf250 : FnC := (.mk 30767 25 q3f (.seq (.rg (.op .no qbq q4 (.op .no qjz qj .fin))) (.seq (.rg (.op .no qce .loc (.op .no qm .loc (.op .no q1x .loc (.op .no (.gen (.makeMap 356 (Option.some (.tmp 8))) (rfC 30767 [8, 7, 6])) .loc q5g))))) (.seq (.seq (.rg (.op .no qce .loc (.op .no qm q1b qb4))) (.block 0 (.loop (.seq qb5 (.seq qb6 (.seq (.block 1 (.seq (.rg (.op .no (.ias 3 q1l q27) .loc qkp)) (.rg (.op .no q8l .loc (.op .no qfb .loc (.op .no qm .loc (.op .no (.fadr 1 q1d) .loc (.op .no qm .loc (.op .no q43 .loc (.op .no (.gen (.mapUpdate 356 (.tmp 17) (.tmp 22) (.const (.bool true))) (rfC 30767 [22, 21, 20, 19, 18, 17])) .non .fin)))))))))) qbh)))))) qjw))))
theorem ck250 : compF Tryz.prog xi250 = some cf250 := by kernel_rfl
noncomputable def xi251 := xiM 251 f251 134239647
theorem xk251 : TOK xi251 := tabOK1 func251 (by kernel_rfl) (by kernel_rfl) rfl rfl
noncomputable def cf251 : FnC := (.mk 134239647 54 (.one (.cell 3 true q1l)) (.seq (.rg (.op .no q70 q1b .fin)) (.seq (.rg (.op .no q9h .loc (.op .no q52 .loc (.op .no qb .loc (.op .no q4s .loc (.op .no qjd .loc (.op .no qu .loc (.op .no qw .loc (.op .no q11 .loc (.op .no qd1 q22 (.op .no (.st 2 q33 qt) .non q71))))))))))) (.seq (.seq (.rg (.op .no qbj .loc (.op .no qgg .loc (.op .no (.gen (.lookup 356 (.tmp 24) (.tmp 25) false) (rfC 134239647 [25, 24])) .loc (.op .no qa2 q1y .fin))))) (.cond q1z (.seq (.rg (.op .no qlq .loc (.op .no qb .loc (.op .no q2e .loc (.op .no q2f .loc q9g))))) .ret) .skip)) (.seq (.rg (.op .no q9h .loc (.op .no q52 .loc (.op .no qgg .loc (.op .no (.call (.lit (.clo 252 [])) [qt, qc]) .loc (.op .no qu .loc (.op .no qw .loc (.op .no q11 .loc (.op .no q8b q24 (.op .no (.st 2 q27 qt) .non q71)))))))))) (.seq (.rg (.op .no qgi .loc (.op .no q6z .loc (.op .no qu .loc (.op .no qw .loc (.op .no q11 .loc (.op .no q70 q2h (.op .no qcv .non q71)))))))) (.seq (.rgd (.op .no (.soft q60) .loc (.op .no (.soft qlq) .loc (.op .no qfg .loc (.op .no qfd .loc (.op .no q9p .loc (.op .no (.hard (.call (.lit (.clo 62 [])) [q1p, qc])) .loc (.op .no qv .loc (.op .no qx .loc (.op .no qgf qp (.op .no (.hard (.st 3 qq qc)) .non qki)))))))))) 2) (.seq (.rg (.op .no q8o .loc q9g)) .ret))))))))
theorem ck251 : compF Tryz.prog xi251 = some cf251 := by kernel_rfl
noncomputable def xi252 := xiM 252 f252 33023
theorem xk252 : TOK xi252 := tabOK1 func252 (by kernel_rfl) (by kernel_rfl) rfl rfl
noncomputable def cf252 : FnC := (.mk 33023 24 (.many [qi2, q62]) (.seq (.rg (.op .no q4d qj (.op .no qlo qz (.op .no q8b q13 q63)))) (.seq (.rg (.op .no qi7 .loc (.op .no qcc .loc (.op .no (.call (.lit (.clo 298 [])) [qt, qc]) .loc qd4)))) (.seq (.seq qlm (.cond q2i (.seq (.rg (.op .no (.bld [] [(.int .u8 (.ofNat 0)), (.int .i64 (.ofNat 0))]) .loc (.op .no q28 .loc qln))) .ret) .skip)) (.seq (.rg (.op .no qd6 .loc (.op .no qi4 .loc (.op .no qm .loc (.op .no (.call (.lit (.clo 70 [])) [qi, qc]) .loc (.op .no qw .loc (.op .no q11 .loc qln))))))) .ret)))))
theorem ck252 : compF Tryz.prog xi252 = some cf252 := by kernel_rfl
noncomputable def xi253 := xiM 253 f253 17179886351
theorem xk253 : TOK xi253 := tabOK1 func253 (by kernel_rfl) (by kernel_rfl) rfl rfl
noncomputable def cf253 : FnC := (.mk 17179886351 53 qb3 (.seq qm8 (.block 0 (.loop (.seq qm9 (.seq (.block 1 (.seq qma (.block 2 (.loop (.seq (.seq (.rgd (.op .no qfc .loc (.op .no qbf .loc (.op .no qmb .loc (.op .no qv .loc (.op q2k qf8 .loc (.op q2m qfg .loc (.op q2n qfc .loc (.op q2o qa4 .loc (.op q8p qgs .loc (.op qdv qfg .loc (.op qdw qfc .loc (.op q2r qgn .loc (.op q2v qgo .loc (.op qel qgs .loc qmc)))))))))))))) 0) qmd) (.seq (.block 3 (.rgd (.op .no qfg .loc (.op .no qfc .loc (.op .no qfg .loc (.op .no qfc .loc (.op .no qgn .loc (.op .no qgo .loc (.op .no qgs .loc (.op .no qfg .loc (.op .no qfc .loc (.op .no qa4 .loc (.op .no qgs .loc (.op .no (.soft (.ias 4 qan qap)) .loc (.op .no (.hard (.st 4 qc q1s)) .non (.op .no qfg .loc (.op .no qfc .loc (.op .no qme .loc (.op .no qgo .loc (.op .no (.hard (.st 4 qc q1s)) .non .fin)))))))))))))))))) 0)) qmf)))))) q59))))))
theorem ck253 : compF Tryz.prog xi253 = some cf253 := by kernel_rfl
noncomputable def xi261 := xiM 261 f261 1048583
theorem xk261 : TOK xi261 := tabOK1 func261 (by kernel_rfl) (by kernel_rfl) rfl rfl
noncomputable def cf261 : FnC := (.mk 1048583 21 q3f (.seq qmg (.seq (.seq (.rg (.op .no q3s .loc (.op .no qm .loc (.op .no qmh .loc (.op .no qu .loc (.op q1g q3s .loc (.op q1i qm .loc (.op q1k qmi .loc (.op .no q4h .loc (.op .no qu .loc (.op q1g q4g .loc (.op q1i qm .loc (.op q1k qmh .loc (.op .no q4h .loc (.op .no qu .loc (.op q1g q4g .loc (.op q1i qm .loc (.op q1k qmi .loc qfk)))))))))))))))))) q4q) q4c)))
theorem ck261 : compF Tryz.prog xi261 = some cf261 := by kernel_rfl
noncomputable def xi262 := xiM 262 f262 3
theorem xk262 : TOK xi262 := tabOK1 func262 (by kernel_rfl) (by kernel_rfl) rfl rfl
noncomputable def cf262 : FnC := (.mk 3 10 (.one (.cell 15 true qa)) (.seq (.rg (.op .no (.alloc 371 [(.con .nilFunc), (.con .nilFunc), (.con .nilFunc), (.con .nilFunc), (.con .nilFunc), (.con .nilFunc), (.con .nilFunc), (.con .nilFunc), (.con .nilFunc), (.con .nilFunc), (.con .nilFunc), (.con .nilFunc), (.con .nilFunc), (.con .nilFunc), (.con .nilFunc)]) q7w .fin)) (.seq (.rg (.op .no (.bld [(.mk 1 1 qn), qh, (.mk 3 1 q6), (.mk 4 1 qbk)] [(.int .u8 (.ofNat 0)), (.int .u8 (.ofNat 0)), (.int .u8 (.ofNat 0)), (.int .u8 (.ofNat 0)), (.int .u8 (.ofNat 0))]) .loc (.op .no (.alloc 404 [(.int .u8 (.ofNat 0)), (.int .u8 (.ofNat 0)), (.int .u8 (.ofNat 0)), (.int .u8 (.ofNat 0)), (.int .u8 (.ofNat 0))]) q4 (.op .no (.st 5 q0 qc) .non .fin)))) (.seq (.rg (.op .no (.bld [(.mk 0 1 (.lit (.clo 302 []))), (.mk 1 1 (.lit (.clo 304 []))), (.mk 2 1 (.lit (.clo 305 [])))] [(.con .nilFunc), (.con .nilFunc), (.con .nilFunc)]) .loc (.op .no (.bld [(.mk 0 1 (.lit (.clo 306 []))), (.mk 1 1 (.lit (.clo 307 []))), (.mk 2 1 (.lit (.clo 308 [])))] [(.con .nilFunc), (.con .nilFunc), (.con .nilFunc)]) .loc (.op .no (.gen (.makeFunc (Fn.func 311) (Array.mk []) (Array.mk [(.tmp 1)])) (rfC 3 [4, 3])) .loc (.op .no (.bld [(.mk 0 1 (.lit (.clo 309 []))), (.mk 1 1 (.lit (.clo 310 []))), qaq] [(.con .nilFunc), (.con .nilFunc), (.con .nilFunc)]) .loc (.op .no (.gen (.makeFunc (Fn.func 314) (Array.mk []) (Array.mk [(.tmp 1)])) (rfC 3 [6, 5, 4, 3])) .loc (.op .no (.bld [(.mk 0 1 (.lit (.clo 312 []))), (.mk 1 1 (.lit (.clo 313 []))), qaq] [(.con .nilFunc), (.con .nilFunc), (.con .nilFunc)]) .loc (.op .no (.bld [(.mk 3 3 q1s), (.mk 6 3 q1p), (.mk 9 3 qi), (.mk 12 3 qc)] [(.con .nilFunc), (.con .nilFunc), (.con .nilFunc), (.con .nilFunc), (.con .nilFunc), (.con .nilFunc), (.con .nilFunc), (.con .nilFunc), (.con .nilFunc), (.con .nilFunc), (.con .nilFunc), (.con .nilFunc), (.con .nilFunc), (.con .nilFunc), (.con .nilFunc)]) .loc (.op .no (.st 15 qa qc) .non .fin))))))))) .ret))))
theorem ck262 : compF Tryz.prog xi262 = some cf262 := by kernel_rfl
noncomputable def xi263 := xiM 263 f263 7
theorem xk263 : TOK xi263 := tabOK1 func263 (by kernel_rfl) (by kernel_rfl) rfl rfl
noncomputable def cf263 : FnC := (.mk 7 12 qk7 (.seq (.rg (.op .no qie q4 (.op .no qj1 qj .fin))) (.seq (.rg (.op .no q3s .loc (.op .no qm .loc (.op .no qcm .loc (.op .no q36 .loc (.op .no q4g .loc (.op .no qm .loc (.op .no qcm .loc (.op .no q36 .loc (.op .no (.bld [(.mk 0 1 q1p), q42] [(.int .i64 (.ofNat 0)), (.int .i64 (.ofNat 0))]) .loc qk9)))))))))) .ret)))
theorem ck263 : compF Tryz.prog xi263 = some cf263 := by kernel_rfl
noncomputable def xi266 := xiM 266 f266 17179886351
theorem xk266 : TOK xi266 := tabOK1 func266 (by kernel_rfl) (by kernel_rfl) rfl rfl
noncomputable def cf266 : FnC := (.mk 17179886351 53 qb3 (.seq qm8 (.block 0 (.loop (.seq qm9 (.seq (.block 1 (.seq qma (.block 2 (.loop (.seq (.seq (.rgd (.op .no qfc .loc (.op .no qbf .loc (.op .no qmb .loc (.op .no qv .loc (.op q2k qf8 .loc (.op q2m qfg .loc (.op q2n qfc .loc (.op q2o qfd .loc (.op q8p q9p .loc (.op qdv qfg .loc (.op qdw qfc .loc (.op q2r qgn .loc (.op q2v qh3 .loc (.op qel q9p .loc qmc)))))))))))))) 0) qmd) (.seq (.block 3 (.rgd (.op .no qfg .loc (.op .no qfc .loc (.op .no qfg .loc (.op .no qfc .loc (.op .no qgn .loc (.op .no qh3 .loc (.op .no q9p .loc (.op .no qfg .loc (.op .no qfc .loc (.op .no qfd .loc (.op .no q9p .loc (.op .no (.soft (.ias 3 qan qap)) .loc (.op .no (.hard (.st 3 qc q1s)) .non (.op .no qfg .loc (.op .no qfc .loc (.op .no qme .loc (.op .no qh3 .loc (.op .no (.hard (.st 3 qc q1s)) .non .fin)))))))))))))))))) 0)) qmf)))))) q59))))))
theorem ck266 : compF Tryz.prog xi266 = some cf266 := by kernel_rfl
noncomputable def xi274 := xiM 274 f274 2147618775
theorem xk274 : TOK xi274 := tabOK1 func274 (by kernel_rfl) (by kernel_rfl) rfl rfl
noncomputable def cf274 : FnC := (.mk 2147618775 49 qbp (.seq (.rg (.op .no qlo qz (.op .no q20 q13 (.op .no q3 q1b .fin)))) (.seq qlt (.seq (.rg (.op .no q34 .loc (.op .no q20 q24 q8y))) (.seq (.block 0 (.loop (.seq (.seq (.rg (.op .no q28 .loc (.op .no q8n .loc (.op .no qdk q1y .fin)))) qgd) (.block 1 (.seq (.rg (.op .no q28 .loc (.op .no q8n .loc (.op .no qfq .loc (.op .no (.gen (.convert 3 250 (.tmp 20)) (rfC 2147618775 [20, 19, 18])) .loc (.op .no (.bin .shr 250 qc (.lit (.int .u64 (.ofNat 1)))) .loc (.op .no (.gen (.convert 250 3 (.tmp 22)) (rfC 2147618775 [22, 21, 20, 19, 18])) .loc q6h))))))) (.seq (.rgd (.op .no q89 .loc (.op .no qfg .loc (.op .no (.soft q5t) .loc (.op .no qfd .loc (.op .no q9p .loc (.op .no qe3 .loc (.op .no qmj .loc (.op .no qi1 q2a .fin)))))))) 0) (.cond q2b (.rg (.op .no q5t .loc (.op .no q36 .loc q39))) (.rg (.op .no q5t .loc q8y))))))))) (.seq (.rgd (.op .no q86 .loc (.op .no q85 .loc (.op .no (.soft qdk) .loc (.op .no qv .loc (.op q2k q89 .loc (.op q2m qfg .loc (.op q2n q86 .loc (.op q2o qfd .loc (.op q8p q9p .loc (.op qdv qe3 .loc (.op qdw qmj .loc (.op .no q86 .loc (.op q2v (.soft (.bin .eql 3 qt q15)) .loc (.op .no (.soft (.pick qap qc q2)) .loc (.op .no qip q13 qkd))))))))))))))) 0) .ret))))))
theorem ck274 : compF Tryz.prog xi274 = some cf274 := by kernel_rfl
noncomputable def xi275 := xiM 275 f275 31
theorem xk275 : TOK xi275 := tabOK1 func275 (by kernel_rfl) (by kernel_rfl) rfl rfl
noncomputable def cf275 : FnC := (.mk 31 9 qfv (.seq (.rg (.op .no qjo qj (.op .no qlo qz q4w))) (.seq (.rgd (.op .no qfh .loc (.op .no qkr .loc (.op .no (.softw qcc 1 (.load 100 (.tmp 3)) (rfR 31 [6, 5] [3])) .loc (.op .no (.hard (.call (.lit (.clo 249 [])) [qt, qc])) .loc q14)))) 0) .ret)))
theorem ck275 : compF Tryz.prog xi275 = some cf275 := by kernel_rfl
noncomputable def xi281 := xiM 281 f281 65619
theorem xk281 : TOK xi281 := tabOK1 func281 (by kernel_rfl) (by kernel_rfl) rfl rfl
noncomputable def cf281 : FnC := (.mk 65619 27 q3f (.seq (.rg qby) (.seq qku (.seq (.seq (.rg (.op .no q4s .loc (.op .no qb .loc (.op .no (.gen (.call (Call.mk (Callee.builtin Builtin.cap) (Array.mk [(.tmp 9)]) (Array.mk [38]))) (rfC 65619 [9, 8])) .loc qkv)))) (.seq qkw (.cond q1d (.rg (.op .no qb .loc (.op .no qb .loc (.op .no (.gen (.call (Call.mk (Callee.builtin Builtin.cap) (Array.mk [(.tmp 18)]) (Array.mk [38]))) (rfC 65619 [18, 17])) .loc (.op .no (.gen (.slice 38 (.tmp 17) Option.none (Option.some (.tmp 19)) Option.none) (rfC 65619 [19, 18, 17])) .loc (.op .no q4s .loc (.op .no (.gen (.call (Call.mk (Callee.builtin Builtin.append) (Array.mk [(.tmp 20), (.tmp 21)]) (Array.mk [38, 3]))) (rfC 65619 [21, 20, 19, 18, 17])) .loc (.op .no qb .loc (.op .no q1x .loc (.op .no (.gen (.slice 38 (.tmp 22) Option.none (Option.some (.tmp 24)) Option.none) (rfC 65619 [24, 23, 22, 21, 20, 19, 18, 17])) .loc q8u)))))))))) .skip))) qkx))))
theorem ck281 : compF Tryz.prog xi281 = some cf281 := by kernel_rfl
noncomputable def xi282 := xiM 282 f282 11
theorem xk282 : TOK xi282 := tabOK1 func282 (by kernel_rfl) (by kernel_rfl) rfl rfl
noncomputable def cf282 : FnC := (.mk 11 11 q3f (.seq qj5 (.seq (.rg (.op .no qb .loc (.op .no q95 .loc (.op .no qu .loc (.op q1g qb .loc (.op q1i qlp .loc (.op q1k qe9 .loc (.op .no q4h .loc q3n)))))))) .ret)))
theorem ck282 : compF Tryz.prog xi282 = some cf282 := by kernel_rfl
noncomputable def xi283 := xiM 283 f283 17179886351
theorem xk283 : TOK xi283 := tabOK1 func283 (by kernel_rfl) (by kernel_rfl) rfl rfl
noncomputable def cf283 : FnC := (.mk 17179886351 53 qb3 (.seq qm8 (.block 0 (.loop (.seq qm9 (.seq (.block 1 (.seq qma (.block 2 (.loop (.seq (.seq (.rgd (.op .no qfc .loc (.op .no qbf .loc (.op .no qmb .loc (.op .no qv .loc (.op q2k qf8 .loc (.op q2m qfg .loc (.op q2n qfc .loc (.op q2o qm3 .loc (.op q8p qm2 .loc (.op qdv qfg .loc (.op qdw qfc .loc (.op q2r qgn .loc (.op q2v qm1 .loc (.op qel qm2 .loc qmc)))))))))))))) 0) qmd) (.seq (.block 3 (.rgd (.op .no qfg .loc (.op .no qfc .loc (.op .no qfg .loc (.op .no qfc .loc (.op .no qgn .loc (.op .no qm1 .loc (.op .no qm2 .loc (.op .no qfg .loc (.op .no qfc .loc (.op .no qm3 .loc (.op .no qm2 .loc (.op .no (.soft (.ias 6 qan qap)) .loc (.op .no (.hard (.st 6 qc q1s)) .non (.op .no qfg .loc (.op .no qfc .loc (.op .no qme .loc (.op .no qm1 .loc (.op .no (.hard (.st 6 qc q1s)) .non .fin)))))))))))))))))) 0)) qmf)))))) q59))))))
theorem ck283 : compF Tryz.prog xi283 = some cf283 := by kernel_rfl
noncomputable def xi291 := xiM 291 f291 42535296023574879666274036850519702559
theorem xk291 : TOK xi291 := tabOK1 func291 (by kernel_rfl) (by kernel_rfl) rfl rfl
noncomputable def cf291 : FnC := (.mk 42535296023574879666274036850519702559 148 qb3 (.seq qhs (.seq qky (.block 0 (.loop (.block 1 (.seq ql0 (.seq (.seq ql1 (.cond q5n (.seq (.rg (.op .no qb .loc (.op .no q4s .loc (.op .no q80 .loc (.op .no q1e .loc (.op .no (.call (.lit (.clo 323 [])) [qf, qi, qt, qc]) .loc .fin)))))) .ret) .skip)) (.seq (.seq ql3 (.cond q7b (.seq (.rg (.op .no qb .loc (.op .no q4s .loc (.op .no q80 .loc (.op .no q1e .loc (.op .no (.call (.lit (.clo 324 [])) [qf, qi, qt, qc]) .loc .fin)))))) .ret) .skip)) (.seq (.seq ql4 (.cond q7n (.seq (.rg (.op .no qb .loc (.op .no q4s .loc (.op .no q80 .loc (.op .no q1e .loc (.op .no (.call (.lit (.clo 325 [])) [qf, qi, qt, qc]) .loc .fin)))))) qh9) .skip)) (.seq (.rg (.op .no qb .loc (.op .no q4s .loc (.op .no q80 .loc (.op .no q1e .loc (.op .no (.call (.lit (.clo 326 [])) [qf, qi, qt, qc]) .loc qi9)))))) (.seq (.seq ql5 (.cond q67 (.seq (.rg (.op .no qb .loc (.op .no q4s .loc (.op .no q80 .loc (.op .no q1e .loc (.op .no (.call (.lit (.clo 327 [])) [qf, qi, qt, qc]) .loc .fin)))))) ql6) .skip)) (.seq (.seq ql7 (.cond q6d (.seq (.rg (.op .no qb .loc (.op .no q4s .loc (.op .no q80 .loc (.op .no q1e .loc (.op .no (.call (.lit (.clo 328 [])) [qf, qi, qt, qc]) q6j .fin)))))) ql8) .skip)) (.seq (.seq (.rgd (.op .no qbf .loc (.op .no qgm .loc (.op .no qv .loc (.op q2k q54 .loc (.op q2m qfg .loc (.op q2n qbf .loc (.op q2o qgn .loc (.op q8p qmk .loc (.op qdv q53 .loc (.op qdw qfg .loc (.op q2r q9s .loc (.op q2v qml .loc (.op qel q53 .loc ql9))))))))))))) 0) (.cond q6s (.seq (.rg (.op .no qb .loc (.op .no q4s .loc (.op .no q80 .loc (.op .no q8n .loc (.op .no q1e .loc (.op .no (.call (.lit (.clo 329 [])) [q1p, qf, qi, qt, qc]) .loc q6n))))))) qla) .skip)) (.seq (.rg (.op .no qb .loc (.op .no q4s .loc (.op .no q80 .loc (.op .no q8n .loc (.op .no q1e .loc (.op .no (.call (.lit (.clo 330 [])) [q1p, qf, qi, qt, qc]) .loc qje))))))) (.seq qlb (.seq qlc (.seq qld (.seq qle (.cond q6v (.seq qlg (.seq (.rg (.op .no qb .loc (.op .no q4s .loc (.op .no q6q .loc (.op .no q8l .loc (.op .no q1e .loc (.op .no (.call qm4 [q1p, qf, qi, qt, qc]) .loc .fin))))))) qlh)) (.seq qli (.seq (.rg (.op .no qb .loc (.op .no q6q .loc (.op .no q36 .loc (.op .no q80 .loc (.op .no q8l .loc (.op .no q1e .loc (.op .no (.call qm4 [q1s, qf, qi, qt, qc]) .loc .fin)))))))) qlj))))))))))))))))))))))
theorem ck291 : compF Tryz.prog xi291 = some cf291 := by kernel_rfl
noncomputable def xi292 := xiM 292 f292 42535296023574879666274036850519702559
theorem xk292 : TOK xi292 := tabOK1 func292 (by kernel_rfl) (by kernel_rfl) rfl rfl
noncomputable def cf292 : FnC := (.mk 42535296023574879666274036850519702559 148 qb3 (.seq qhs (.seq qky (.block 0 (.loop (.block 1 (.seq ql0 (.seq (.seq ql1 (.cond q5n (.seq (.rg (.op .no qb .loc (.op .no q4s .loc (.op .no q80 .loc (.op .no q1e .loc (.op .no (.call (.lit (.clo 331 [])) [qf, qi, qt, qc]) .loc .fin)))))) .ret) .skip)) (.seq (.seq ql3 (.cond q7b (.seq (.rg (.op .no qb .loc (.op .no q4s .loc (.op .no q80 .loc (.op .no q1e .loc (.op .no (.call (.lit (.clo 332 [])) [qf, qi, qt, qc]) .loc .fin)))))) .ret) .skip)) (.seq (.seq ql4 (.cond q7n (.seq (.rg (.op .no qb .loc (.op .no q4s .loc (.op .no q80 .loc (.op .no q1e .loc (.op .no (.call (.lit (.clo 333 [])) [qf, qi, qt, qc]) .loc .fin)))))) qh9) .skip)) (.seq (.rg (.op .no qb .loc (.op .no q4s .loc (.op .no q80 .loc (.op .no q1e .loc (.op .no (.call (.lit (.clo 334 [])) [qf, qi, qt, qc]) .loc qi9)))))) (.seq (.seq ql5 (.cond q67 (.seq (.rg (.op .no qb .loc (.op .no q4s .loc (.op .no q80 .loc (.op .no q1e .loc (.op .no (.call (.lit (.clo 335 [])) [qf, qi, qt, qc]) .loc .fin)))))) ql6) .skip)) (.seq (.seq ql7 (.cond q6d (.seq (.rg (.op .no qb .loc (.op .no q4s .loc (.op .no q80 .loc (.op .no q1e .loc (.op .no (.call (.lit (.clo 336 [])) [qf, qi, qt, qc]) q6j .fin)))))) ql8) .skip)) (.seq (.seq qll (.cond q6s (.seq (.rg (.op .no qb .loc (.op .no q4s .loc (.op .no q80 .loc (.op .no q8n .loc (.op .no q1e .loc (.op .no (.call (.lit (.clo 337 [])) [q1p, qf, qi, qt, qc]) .loc q6n))))))) qla) .skip)) (.seq (.rg (.op .no qb .loc (.op .no q4s .loc (.op .no q80 .loc (.op .no q8n .loc (.op .no q1e .loc (.op .no (.call (.lit (.clo 338 [])) [q1p, qf, qi, qt, qc]) .loc qje))))))) (.seq qlb (.seq qlc (.seq qld (.seq qle (.cond q6v (.seq qlg (.seq (.rg (.op .no qb .loc (.op .no q4s .loc (.op .no q6q .loc (.op .no q8l .loc (.op .no q1e .loc (.op .no (.call qm6 [q1p, qf, qi, qt, qc]) .loc .fin))))))) qlh)) (.seq qli (.seq (.rg (.op .no qb .loc (.op .no q6q .loc (.op .no q36 .loc (.op .no q80 .loc (.op .no q8l .loc (.op .no q1e .loc (.op .no (.call qm6 [q1s, qf, qi, qt, qc]) .loc .fin)))))))) qlj))))))))))))))))))))))
theorem ck292 : compF Tryz.prog xi292 = some cf292 := by kernel_rfl
noncomputable def xi293 := xiM 293 f293 10384593871817177683247510831234831
theorem xk293 : TOK xi293 := tabOK1 func293 (by kernel_rfl) (by kernel_rfl) rfl rfl
noncomputable def cf293 : FnC := (.mk 10384593871817177683247510831234831 134 qb3 (.seq (.rg (.op .no qa6 q13 .fin)) (.seq qhs (.block 0 (.loop (.block 1 (.seq (.rg (.op .no q80 .loc (.op .no q4s .loc (.op .no qkz .loc q37)))) (.seq (.seq (.rg (.op .no q34 .loc (.op .no (.bin .leq 3 qc q7v) q49 .fin))) (.cond q4a (.seq (.rg (.op .no qb .loc (.op .no q4s .loc (.op .no q80 .loc (.op .no (.call (.lit (.clo 339 [])) [qi, qt, qc]) .loc .fin))))) .ret) .skip)) (.seq (.seq (.rg (.op .no q8l .loc (.op .no q1r q5l .fin))) (.cond q5n (.seq (.rg (.op .no qb .loc (.op .no q4s .loc (.op .no q80 .loc (.op .no (.call (.lit (.clo 340 [])) [qi, qt, qc]) .loc .fin))))) .ret) .skip)) (.seq (.seq (.rg (.op .no q1e .loc (.op .no qa2 q7a .fin))) (.cond q7b (.seq (.rg (.op .no qb .loc (.op .no q4s .loc (.op .no q80 .loc (.op .no (.call (.lit (.clo 341 [])) [qi, qt, qc]) .loc .fin))))) qh9) .skip)) (.seq (.rg (.op .no qb .loc (.op .no q4s .loc (.op .no q80 .loc (.op .no (.call (.lit (.clo 342 [])) [qi, qt, qc]) .loc qkj))))) (.seq (.seq (.rg (.op .no q8n .loc (.op .no (.bin .eql 315 qc q8) q7l .fin))) (.cond q7n (.seq (.rg (.op .no qb .loc (.op .no q4s .loc (.op .no q80 .loc (.op .no (.call (.lit (.clo 343 [])) [qi, qt, qc]) .loc .fin))))) (.seq (.rg (.op .no q80 .loc (.op .no q9t .loc (.op .no q28 .loc (.op .no q4s .loc (.op .no qkz .loc (.op .no qkc .loc q39))))))) (.rg (.op .no q4n q2h .fin)))) .skip)) (.seq (.seq (.rg (.op .no q1e .loc (.op .no qu .loc (.op q2k q1m .loc (.op .no q3d .loc (.op .no qu .loc (.op q2k q8n .loc (.op q2m (.bin .eql 315 qc q35) .loc (.op .no q8m q66 .fin))))))))) (.cond q67 (.seq (.rg (.op .no qb .loc (.op .no q4s .loc (.op .no q80 .loc (.op .no (.call (.lit (.clo 344 [])) [qi, qt, qc]) q6c .fin))))) (.cond q6d .ret .skip)) .skip)) (.seq (.seq (.rgd (.op .no qbf .loc (.op .no qgm .loc (.op .no qv .loc (.op q2k qfg .loc (.op q2m qbf .loc (.op q2n qgn .loc (.op q2o qek .loc (.op q8p q5s .loc (.op qdv qfg .loc (.op qdw q86 .loc (.op q2r q88 .loc (.op q2v q5s .loc (.op qel (.hard (.call (.lit (.clo 345 [])) [q1p, qc])) .loc (.op qep (.soft qa2) .loc (.op .no (.soft (.pick qbl qc q2)) q6j .fin))))))))))))))) 0) (.cond q6l (.seq (.rg (.op .no qb .loc (.op .no q4s .loc (.op .no q80 .loc (.op .no q28 .loc (.op .no (.call (.lit (.clo 346 [])) [qf, qi, qt, qc]) .loc q6h)))))) (.seq (.rg (.op .no q5t .loc q3e)) q9a)) .skip)) (.seq (.rg (.op .no qb .loc (.op .no q4s .loc (.op .no q80 .loc (.op .no q28 .loc (.op .no (.call (.lit (.clo 347 [])) [qf, qi, qt, qc]) .loc (.op .no qu .loc (.op .no qw .loc (.op .no q11 .loc (.op .no q74 q1y q6p)))))))))) (.seq (.rg (.op .no q6q .loc q1c)) (.seq (.rg (.op .no q6o .loc (.op .no q4s .loc (.op .no qkz .loc (.op .no q80 .loc (.op .no q6o .loc (.op .no qkz .loc (.op .no (.mv qf) q31 q44)))))))) (.seq (.rg (.op .no q34 .loc (.op .no (.bin .quo 3 qc qj2) .loc qcx))) (.seq (.rg (.op .no q9c .loc (.op .no q6t .loc (.op .no qdk q6r .fin)))) (.cond q6s (.seq (.rg (.op .no q9c .loc qmm)) (.seq (.rg (.op .no qb .loc (.op .no q4s .loc (.op .no q6o .loc (.op .no q8l .loc (.op .no (.call qm7 [qf, qi, qt, qc]) .loc .fin)))))) (.rg (.op .no q6o .loc (.op .no q36 .loc q3e))))) (.seq (.rg (.op .no q6t .loc qmm)) (.seq (.rg (.op .no qb .loc (.op .no q6o .loc (.op .no q36 .loc (.op .no q80 .loc (.op .no q8l .loc (.op .no (.call qm7 [q1p, qi, qt, qc]) .loc .fin))))))) (.rg (.op .no q6o .loc q3n))))))))))))))))))))))))
theorem ck293 : compF Tryz.prog xi293 = some cf293 := by kernel_rfl
noncomputable def xi297 := xiM 297 f297 66483
theorem xk297 : TOK xi297 := tabOK1 func297 (by kernel_rfl) (by kernel_rfl) rfl rfl
noncomputable def cf297 : FnC := (.mk 66483 19 q3f (.seq q4b (.seq (.seq qjs (.block 0 (.loop (.seq qjt (.seq qh1 (.seq (.block 1 (.seq qju (.seq (.rg (.op .no q4s .loc (.op .no qb .loc (.op .no q8l .loc (.op .no q2e .loc (.op .no q2f .loc qjv)))))) qjx))) qjy)))))) qdh)))
theorem ck297 : compF Tryz.prog xi297 = some cf297 := by kernel_rfl
noncomputable def xi298 := xiM 298 f298 1073746431
theorem xk298 : TOK xi298 := tabOK1 func298 (by kernel_rfl) (by kernel_rfl) rfl rfl
noncomputable def cf298 : FnC := (.mk 1073746431 36 qj8 (.seq (.rg (.op .no q4d qj (.op .no qlo qz (.op .no q8k q13 q63)))) (.seq (.seq qjg (.seq (.rg (.op .no q34 .loc q3m)) (.cond qq (.seq (.rg (.op .no q1j .loc (.op .no q34 .loc (.op .no (.st 3 q1d qt) .non q1c)))) .ret) .skip))) (.seq (.seq (.rg (.op .no qi7 .loc (.op .no q1v .loc (.op .no qm .loc (.op .no qi4 .loc (.op .no qm .loc (.op .no qkq .loc (.op .no qu .loc (.op .no qw .loc (.op .no q11 .loc (.op .no qd1 q24 (.op .no (.st 2 q27 qt) .non q8y)))))))))))) (.seq (.rg (.op .no q8n .loc (.op .no q1f .loc (.op .no qu .loc (.op q1g qgi .loc (.op q1i qcc .loc (.op q1k (.bin .neq 100 qt qc) .loc (.op .no q4h q1y .fin)))))))) (.cond q1z (.seq (.rg (.op .no q1j .loc (.op .no qbc .non q6y))) .ret) .skip))) (.seq (.rg (.op .no qi7 .loc (.op .no q1v .loc (.op .no qm .loc (.op .no (.call (.lit (.clo 197 [])) [qi, qc]) .loc (.op .no qbc .non q63)))))) .ret)))))
theorem ck298 : compF Tryz.prog xi298 = some cf298 := by kernel_rfl
noncomputable def xi302 := xiM 302 f302 7
theorem xk302 : TOK xi302 := tabOK1 func302 (by kernel_rfl) (by kernel_rfl) rfl rfl
noncomputable def cf302 : FnC := (.mk 7 5 q3f (.seq qmg (.seq (.rg (.op .no q8c .loc (.op .no (.call (.lit (.clo 303 [])) [qg, qc]) .loc q3n))) .ret)))
theorem ck302 : compF Tryz.prog xi302 = some cf302 := by kernel_rfl
noncomputable def xi303 := xiM 303 f303 17531
theorem xk303 : TOK xi303 := tabOK1 func303 (by kernel_rfl) (by kernel_rfl) rfl rfl
noncomputable def cf303 : FnC := (.mk 17531 26 qec (.seq (.rg (.op .no (.box 243 q0) qj q5d)) (.seq (.seq (.rg (.op .no qb q13 .fin)) (.block 0 (.seq (.rg (.op .no (.bin .eql 63 q1d qg) .loc q1c)) (.cond q1l (.seq (.rg (.op .no q9h .loc qdb)) .ret) (.seq (.rg (.op .no (.bin .eql 63 q1d qn) .loc q37)) (.cond q33 (.seq (.rg (.op .no qg3 .loc qdb)) .ret) (.seq (.rg (.op .no (.bin .eql 63 q1d qbk) .loc q39)) (.cond q27 (.seq (.rg (.op .no q9h .loc (.op .no qm .loc (.op .no qg3 .loc (.op .no qm .loc (.op .no qg1 .loc q5g)))))) .ret) .skip)))))))) (.seq (.rg (.op .no qg3 .loc (.op .no qm .loc (.op .no q9h .loc (.op .no qm .loc (.op .no qg2 .loc q5g)))))) .ret))))
theorem ck303 : compF Tryz.prog xi303 = some cf303 := by kernel_rfl
noncomputable def xi304 := xiM 304 f304 27
theorem xk304 : TOK xi304 := tabOK1 func304 (by kernel_rfl) (by kernel_rfl) rfl rfl
noncomputable def cf304 : FnC := (.mk 27 13 qmn (.seq qmo (.seq (.rg (.op .no qb .loc (.op .no q4x .loc (.op .no q9h .loc (.op .no qm .loc (.op .no qg2 .loc (.op .no qg3 .loc (.op .no qm .loc (.op .no qig .loc qmp))))))))) .ret)))
theorem ck304 : compF Tryz.prog xi304 = some cf304 := by kernel_rfl
noncomputable def xi305 := xiM 305 f305 27
theorem xk305 : TOK xi305 := tabOK1 func305 (by kernel_rfl) (by kernel_rfl) rfl rfl
noncomputable def cf305 : FnC := (.mk 27 28 qmn (.seq (.rg (.op .no q8w qj (.op .no q8b qz .fin))) (.seq (.rg (.op .no qb .loc (.op .no qcm .loc (.op .no qg3 .loc (.op .no qm .loc (.op .no qg2 .loc (.op .no qk4 .loc (.op .no qi7 .loc (.op .no qg3 .loc (.op .no qm .loc (.op .no qb .loc (.op .no qcm .loc (.op .no qg2 .loc (.op .no qk6 .loc (.op .no qg3 .loc (.op .no qm .loc (.op .no qb .loc (.op .no qcm .loc (.op .no qg1 .loc (.op .no qk5 .loc (.op .no (.bld [(.mk 2 2 (.loc q2x)), (.mk 4 2 qdy), (.mk 6 2 q4l), (.mk 8 2 qc)] [(.int .u8 (.ofNat 0)), (.int .i64 (.ofNat 0)), (.int .u8 (.ofNat 0)), (.int .i64 (.ofNat 0)), (.int .u8 (.ofNat 0)), (.int .i64 (.ofNat 0)), (.int .u8 (.ofNat 0)), (.int .i64 (.ofNat 0)), (.int .u8 (.ofNat 0)), (.int .i64 (.ofNat 0))]) .loc (.op .no q9h .loc (.op .no qm .loc (.op .no (.gen (.index 406 (.tmp 24) (.tmp 26)) (rfC 27 [26, 25, 24, 23, 22, 21, 20, 19, 18, 17, 16, 15, 14, 13, 12, 11, 10, 9, 8, 7, 6, 5])) .loc qmp)))))))))))))))))))))))) .ret)))
theorem ck305 : compF Tryz.prog xi305 = some cf305 := by kernel_rfl
noncomputable def xi312 := xiM 312 f312 7
theorem xk312 : TOK xi312 := tabOK1 func312 (by kernel_rfl) (by kernel_rfl) rfl rfl
noncomputable def cf312 : FnC := (.mk 7 5 q3f (.seq qmg (.seq (.rg (.op .no q8c .loc (.op .no (.call (.lit (.clo 303 [])) [q6, qc]) .loc q3n))) .ret)))
theorem ck312 : compF Tryz.prog xi312 = some cf312 := by kernel_rfl
noncomputable def xi313 := xiM 313 f313 27
theorem xk313 : TOK xi313 := tabOK1 func313 (by kernel_rfl) (by kernel_rfl) rfl rfl
noncomputable def cf313 : FnC := (.mk 27 16 qmn (.seq qmo (.seq (.rg (.op .no qg3 .loc (.op .no qm .loc (.op .no qb .loc (.op .no qcm .loc (.op .no qg2 .loc (.op .no q9h .loc (.op .no qm .loc (.op .no qb .loc (.op .no qcm .loc (.op .no qg1 .loc (.op .no qka .loc qmp)))))))))))) .ret)))
theorem ck313 : compF Tryz.prog xi313 = some cf313 := by kernel_rfl
noncomputable def xi314 := xiM 314 f314 55
theorem xk314 : TOK xi314 := tabOK1 func314 (by kernel_rfl) (by kernel_rfl) rfl rfl
noncomputable def cf314 : FnC := (.mk 55 35 qi3 (.seq (.rg (.op .no q8w qz (.op .no q8b q13 .fin))) (.seq (.rgd (.op .no q4z .loc (.op .no q5s .loc (.op .no qmq .loc (.op .no q5s .loc (.op .no qi5 .loc (.op .no q5s .loc (.op .no qfg .loc (.op .no (.soft qfq) .loc (.op .no qmr .loc (.op .no q4z .loc (.op .no q5s .loc (.op .no qmq .loc (.op .no q5s .loc (.op .no qi5 .loc (.op .no q5s .loc (.op .no qfg .loc (.op .no (.soft qkz) .loc (.op .no qmr .loc (.op .no qe3 .loc (.op .no qfg .loc (.op .no (.soft qcm) .loc (.op .no qi5 .loc (.op .no q5s .loc (.op .no (.soft qg2) .loc (.op .no (.soft qk6) .loc (.op .no (.soft (.bld [(.mk 2 2 (.loc (.s (.s (.s q2x))))), (.mk 4 2 q2q), (.mk 6 2 q4l), (.mk 8 2 qc)] [(.int .u8 (.ofNat 0)), (.int .i64 (.ofNat 0)), (.int .u8 (.ofNat 0)), (.int .i64 (.ofNat 0)), (.int .u8 (.ofNat 0)), (.int .i64 (.ofNat 0)), (.int .u8 (.ofNat 0)), (.int .i64 (.ofNat 0)), (.int .u8 (.ofNat 0)), (.int .i64 (.ofNat 0))])) .loc (.op .no q4z .loc (.op .no q5s .loc (.op .no (.soft (.gen (.index 406 (.tmp 31) (.tmp 33)) (rfR 55 [33, 32, 31, 30, 29, 28, 27, 26, 25, 24, 23, 22, 21, 20, 19, 18, 17, 16, 15, 14, 13, 12, 11, 10, 9, 8, 7, 6] [31, 33]))) .loc (.op .no (.hard qib) .non .fin)))))))))))))))))))))))))))))) 0) .ret)))
theorem ck314 : compF Tryz.prog xi314 = some cf314 := by kernel_rfl
noncomputable def xi323 := xiM 323 f323 17179886351
theorem xk323 : TOK xi323 := tabOK1 func323 (by kernel_rfl) (by kernel_rfl) rfl rfl
noncomputable def cf323 : FnC := (.mk 17179886351 53 qb3 (.seq qm8 (.block 0 (.loop (.seq qm9 (.seq (.block 1 (.seq qma (.block 2 (.loop (.seq (.seq (.rgd (.op .no qfc .loc (.op .no qbf .loc (.op .no qmb .loc (.op .no qv .loc (.op q2k qf8 .loc (.op q2m qfg .loc (.op q2n qfc .loc (.op q2o qml .loc (.op q8p q53 .loc (.op qdv qfg .loc (.op qdw qfc .loc (.op q2r qgn .loc (.op q2v qmk .loc (.op qel q53 .loc qmc)))))))))))))) 0) qmd) (.seq (.block 3 (.rgd (.op .no qfg .loc (.op .no qfc .loc (.op .no qfg .loc (.op .no qfc .loc (.op .no qgn .loc (.op .no qmk .loc (.op .no q53 .loc (.op .no qfg .loc (.op .no qfc .loc (.op .no qml .loc (.op .no q53 .loc (.op .no (.soft (.ias 2 qan qap)) .loc (.op .no (.hard (.st 2 qc q1s)) .non (.op .no qfg .loc (.op .no qfc .loc (.op .no qme .loc (.op .no qmk .loc (.op .no (.hard (.st 2 qc q1s)) .non .fin)))))))))))))))))) 0)) qmf)))))) q59))))))
theorem ck323 : compF Tryz.prog xi323 = some cf323 := by kernel_rfl
noncomputable def xi331 := xiM 331 f331 17179886351
theorem xk331 : TOK xi331 := tabOK1 func331 (by kernel_rfl) (by kernel_rfl) rfl rfl
noncomputable def cf331 : FnC := (.mk 17179886351 53 qb3 (.seq qm8 (.block 0 (.loop (.seq qm9 (.seq (.block 1 (.seq qma (.block 2 (.loop (.seq (.seq (.rgd (.op .no qfc .loc (.op .no qbf .loc (.op .no qmb .loc (.op .no qv .loc (.op q2k qf8 .loc (.op q2m qfg .loc (.op q2n qfc .loc (.op q2o qfd .loc (.op q8p q9p .loc (.op qdv qfg .loc (.op qdw qfc .loc (.op q2r qgn .loc (.op q2v qh3 .loc (.op qel q9p .loc qmc)))))))))))))) 0) qmd) (.seq (.block 3 (.rgd (.op .no qfg .loc (.op .no qfc .loc (.op .no qfg .loc (.op .no qfc .loc (.op .no qgn .loc (.op .no qh3 .loc (.op .no q9p .loc (.op .no qfg .loc (.op .no qfc .loc (.op .no qfd .loc (.op .no q9p .loc (.op .no (.soft (.ias 3 qan qap)) .loc (.op .no (.hard (.st 3 qc q1s)) .non (.op .no qfg .loc (.op .no qfc .loc (.op .no qme .loc (.op .no qh3 .loc (.op .no (.hard (.st 3 qc q1s)) .non .fin)))))))))))))))))) 0)) qmf)))))) q59))))))
theorem ck331 : compF Tryz.prog xi331 = some cf331 := by kernel_rfl
noncomputable def xi339 := xiM 339 f339 1073746119
theorem xk339 : TOK xi339 := tabOK1 func339 (by kernel_rfl) (by kernel_rfl) rfl rfl
noncomputable def cf339 : FnC := (.mk 1073746119 49 qb3 (.seq (.rg (.op .no q4s .loc (.op .no q36 .loc q5g))) (.block 0 (.loop (.seq (.seq (.rg (.op .no q8l .loc (.op .no q80 .loc (.op .no qdk q1b .fin)))) q4y) (.seq (.block 1 (.seq qgl (.block 2 (.loop (.seq (.seq (.rgd (.op .no q54 .loc (.op .no qbf .loc (.op .no qmb .loc (.op .no qv .loc (.op q2k qfg .loc (.op q2m q54 .loc (.op q2n q88 .loc (.op q2o q5s .loc (.op q8p qfg .loc (.op qdv q54 .loc (.op qdw qgn .loc (.op q2r qek .loc (.op q2v q5s .loc (.op qel (.hard (.call (.lit (.clo 345 [])) [q1s, qc])) .loc (.op .no qem q22 .fin))))))))))))))) 0) (.cond q33 .skip q9v)) (.seq (.block 3 (.rgd (.op .no qfg .loc (.op .no q54 .loc (.op .no qfg .loc (.op .no q54 .loc (.op .no qgn .loc (.op .no qek .loc (.op .no q5s .loc (.op .no qfg .loc (.op .no q54 .loc (.op .no q88 .loc (.op .no q5s .loc (.op .no (.soft (.ias 1 qan qap)) .loc (.op .no qj9 .non (.op .no qfg .loc (.op .no q54 .loc (.op .no (.softw q9t 1 (.binOp .sub 3 (.tmp 36) (.const (.int .i64 (.ofNat 1))) 3) (rfR 1073746119 [36, 35, 47, 46, 45, 44, 43, 42, 41, 40, 39, 38, 34, 33] [36])) .loc (.op .no qek .loc (.op .no qj9 .non .fin)))))))))))))))))) 0)) qgt)))))) qgu))))))
theorem ck339 : compF Tryz.prog xi339 = some cf339 := by kernel_rfl
noncomputable def xi345 := xiM 345 f345 19
theorem xk345 : TOK xi345 := tabOK1 func345 (by kernel_rfl) (by kernel_rfl) rfl rfl
noncomputable def cf345 : FnC := (.mk 19 17 q3f (.seq qj5 (.seq (.rg (.op .no qb .loc (.op .no qdf .loc (.op .no qu .loc (.op q2k q4s .loc (.op q2m qdf .loc (.op q2n qa2 .loc (.op .no q2s .loc (.op .no qu .loc (.op q1g qb .loc (.op q1i q4s .loc (.op q1k qdk .loc (.op .no q4h .loc q3n))))))))))))) .ret)))
theorem ck345 : compF Tryz.prog xi345 = some cf345 := by kernel_rfl
end
end Go.Proofs.YtmhhmaopnjfcgaaGreatDoor.V.I
namespace Go.Proofs.YtmhhmaopnjfcgaaGreatDoor.V
open Go
def lnErr (k C : Int) : Int := if 1 ≤ k ∧ k ≤ 4 ∧ -4096 ≤ C ∧ C ≤ 4096 then 0 else 1
abbrev nLnCheck : FuncId := 90
def kLnCheck : Kon
 | [.agg [.int .u8 k, .int .i64 C]] => some (True, .int .i64 (lnErr k C))
 | _ => none
def FLnCheck : Fam := ⟨Int × Int, fun (k, C) => [.agg [.int .u8 k, .int .i64 C]], fun (k, C) => True, fun (k, C) => .int .i64 (lnErr k C)⟩
set_option maxHeartbeats 4000000 in
set_option maxRecDepth 100000 in
theorem pLnCheck : PS nLnCheck kLnCheck := by
 refine con [] (by simp) FLnCheck (fun _ _ => none) kLnCheck ?_ ?_ Go.Proofs.Tryz.func90 (by kernel_rfl) (by kernel_rfl) (by kernel_rfl) ?_
 ·
  intro args pre s h hp
  unfold kLnCheck at h
  split at h
  ·
   rename_i k C; cases h; exact ⟨(k, C), by simp [FLnCheck, le2L, SV.le2, SV.le1, le0L, SV.le0], hp, rfl⟩
  ·
   cases h
 ·
  intro i; show 1 ≤ _; decide
 ·
  rintro ⟨k, C⟩ hp
  replace hp : True := hp
  repeat' (first | ((with_reducible refine And.intro (Ask.mk ?_) ?_); first | exact trivial | exact fun _ => trivial) | with_reducible refine And.intro ?_ ?_ | ((with_reducible refine Br.litT ?_ ?_); exact (Eq.refl true)) | ((with_reducible refine Br.litF ?_ ?_); exact (Eq.refl false)) | with_reducible refine Br.mk (fun h => ?_) (fun h => ?_) | with_reducible exact True.intro | with_reducible refine rowEq ?_ | with_reducible refine Ub.mk (fun hu => ?_) | ((with_reducible refine Late.mk ?_); exact rfl) | ((fail_if_success (with_reducible first | refine stopA ?_ | refine stopE ?_ | refine stopF ?_ | refine Exists.intro ?_ ?_ | intro _ | refine stopK ?_ | refine stopL ?_)); conv => whnf))
  all_goals (try with_reducible refine Ask.mk ?_)
  all_goals (try first | exact trivial | exact fun _ => trivial)
  all_goals (try dsimp only)
  all_goals (simp [lnErr] at h ⊢; omega)
def ptErr (x y : Int) : Int := if -65536 ≤ x ∧ x ≤ 65536 ∧ -65536 ≤ y ∧ y ≤ 65536 then 0 else 1
abbrev nPtCheck : FuncId := 261
def kPtCheck : Kon
 | [.agg [.int .i64 x, .int .i64 y]] => some (True, .int .i64 (ptErr x y))
 | _ => none
def FPtCheck : Fam := ⟨Int × Int, fun (x, y) => [.agg [.int .i64 x, .int .i64 y]], fun (x, y) => True, fun (x, y) => .int .i64 (ptErr x y)⟩
set_option maxHeartbeats 4000000 in
set_option maxRecDepth 100000 in
theorem pPtCheck : PS nPtCheck kPtCheck := by
 refine con [] (by simp) FPtCheck (fun _ _ => none) kPtCheck ?_ ?_ Go.Proofs.Tryz.func261 (by kernel_rfl) (by kernel_rfl) (by kernel_rfl) ?_
 ·
  intro args pre s h hp
  unfold kPtCheck at h
  split at h
  ·
   rename_i x y; cases h; exact ⟨(x, y), by simp [FPtCheck, le2L, SV.le2, SV.le1, le0L, SV.le0], hp, rfl⟩
  ·
   cases h
 ·
  intro i; show 1 ≤ _; decide
 ·
  rintro ⟨x, y⟩ hp
  replace hp : True := hp
  repeat' (first | ((with_reducible refine And.intro (Ask.mk ?_) ?_); first | exact trivial | exact fun _ => trivial) | with_reducible refine And.intro ?_ ?_ | ((with_reducible refine Br.litT ?_ ?_); exact (Eq.refl true)) | ((with_reducible refine Br.litF ?_ ?_); exact (Eq.refl false)) | with_reducible refine Br.mk (fun h => ?_) (fun h => ?_) | with_reducible exact True.intro | with_reducible refine rowEq ?_ | with_reducible refine Ub.mk (fun hu => ?_) | ((with_reducible refine Late.mk ?_); exact rfl) | ((fail_if_success (with_reducible first | refine stopA ?_ | refine stopE ?_ | refine stopF ?_ | refine Exists.intro ?_ ?_ | intro _ | refine stopK ?_ | refine stopL ?_)); conv => whnf))
  all_goals (try with_reducible refine Ask.mk ?_)
  all_goals (try first | exact trivial | exact fun _ => trivial)
  all_goals (try dsimp only)
  all_goals (simp [ptErr] at h ⊢; omega)
theorem ptErr_zero {x y : Int} (h : ptErr x y = 0) : -65536 ≤ x ∧ x ≤ 65536 ∧ -65536 ≤ y ∧ y ≤ 65536 := by
 unfold ptErr at h
 split at h
 ·
  assumption
 ·
  cases h
def tA (t : Int) : Int := tb [1, 0, -1, 0, -1, 0, 1, 0] t.toNat
def tB (t : Int) : Int := tb [0, -1, 0, 1, 0, -1, 0, 1] t.toNat
def tC (t : Int) : Int := tb [0, 1, 0, -1, 0, -1, 0, 1] t.toNat
def tD (t : Int) : Int := tb [1, 0, -1, 0, 1, 0, -1, 0] t.toNat
def unitI (a : Int) : Prop := -1 ≤ a ∧ a ≤ 1
theorem t_unit {t : Int} (h0 : 0 ≤ t) (h1 : t < 8) : unitI (tA t) ∧ unitI (tB t) ∧ unitI (tC t) ∧ unitI (tD t) := by
 have : ∀ q : Nat, q < 8 → unitI (tA q) ∧ unitI (tB q) ∧ unitI (tC q) ∧ unitI (tD q) := by unfold unitI; decide
 have := this t.toNat (by omega)
 rwa [Int.toNat_of_nonneg h0] at this
theorem unit_mul {a x : Int} (h : unitI a) : a * x = 0 ∨ a * x = x ∨ a * x = -x := by
 have h1 := h.1
 have h2 := h.2
 have : a = -1 ∨ a = 0 ∨ a = 1 := by omega
 rcases this with rfl | rfl | rfl <;> simp
abbrev nMatOf : FuncId := 129
def kMatOf : Kon
 | [.agg [.int .i64 a, .int .i64 b, .int .i64 c, .int .i64 d], .int .i64 x, .int .i64 y] => some (unitI a ∧ unitI b ∧ unitI c ∧ unitI d ∧ -1000000 ≤ x ∧ x ≤ 1000000 ∧ -1000000 ≤ y ∧ y ≤ 1000000, .tup [.int .i64 (a * x + b * y), .int .i64 (c * x + d * y)])
 | _ => none
def FMatOf : Fam := ⟨Int × Int × Int × Int × Int × Int, fun (a, b, c, d, x, y) => [.agg [.int .i64 a, .int .i64 b, .int .i64 c, .int .i64 d], .int .i64 x, .int .i64 y], fun (a, b, c, d, x, y) => unitI a ∧ unitI b ∧ unitI c ∧ unitI d ∧ -1000000 ≤ x ∧ x ≤ 1000000 ∧ -1000000 ≤ y ∧ y ≤ 1000000, fun (a, b, c, d, x, y) => .tup [.int .i64 (a * x + b * y), .int .i64 (c * x + d * y)]⟩
set_option maxHeartbeats 4000000 in
set_option maxRecDepth 100000 in
theorem pMatOf : PS nMatOf kMatOf := by
 refine con [] (by simp) FMatOf (fun _ _ => none) kMatOf ?_ ?_ Go.Proofs.Tryz.func129 (by kernel_rfl) (by kernel_rfl) (by kernel_rfl) ?_
 ·
  intro args pre s h hp
  unfold kMatOf at h
  split at h
  ·
   rename_i a b c d x y; cases h; exact ⟨(a, b, c, d, x, y), by simp [FMatOf, le2L, SV.le2, SV.le1, le0L, SV.le0], hp, rfl⟩
  ·
   cases h
 ·
  intro i; show 3 ≤ _; decide
 ·
  rintro ⟨a, b, c, d, x, y⟩ hp
  replace hp : unitI a ∧ unitI b ∧ unitI c ∧ unitI d ∧ -1000000 ≤ x ∧ x ≤ 1000000 ∧ -1000000 ≤ y ∧ y ≤ 1000000 := hp
  obtain ⟨ha, hb, hc, hd, hx⟩ := hp
  have e1 := unit_mul (x := x) ha
  have e2 := unit_mul (x := y) hb
  have e3 := unit_mul (x := x) hc
  have e4 := unit_mul (x := y) hd
  repeat' (first | ((with_reducible refine And.intro (Ask.mk ?_) ?_); first | exact trivial | exact fun _ => trivial) | with_reducible refine And.intro ?_ ?_ | ((with_reducible refine Br.litT ?_ ?_); exact (Eq.refl true)) | ((with_reducible refine Br.litF ?_ ?_); exact (Eq.refl false)) | with_reducible refine Br.mk (fun h => ?_) (fun h => ?_) | with_reducible exact True.intro | with_reducible refine rowEq ?_ | with_reducible refine Ub.mk (fun hu => ?_) | ((with_reducible refine Late.mk ?_); exact rfl) | ((fail_if_success (with_reducible first | refine stopA ?_ | refine stopE ?_ | refine stopF ?_ | refine Exists.intro ?_ ?_ | intro _ | refine stopK ?_ | refine stopL ?_)); conv => whnf))
  all_goals (try with_reducible refine Ask.mk ?_)
  all_goals (try first | exact trivial | exact fun _ => trivial)
  all_goals (try dsimp only)
  all_goals (first | rfl | (simp only [inK]; omega))
abbrev nMatThen : FuncId := 132
def kMatThen : Kon
 | [.agg [.int .i64 a, .int .i64 b, .int .i64 c, .int .i64 d], .agg [.int .i64 p, .int .i64 q, .int .i64 r, .int .i64 s]] => some ((unitI a ∧ unitI b ∧ unitI c ∧ unitI d) ∧ unitI p ∧ unitI q ∧ unitI r ∧ unitI s, .agg [.int .i64 (p * a + q * c), .int .i64 (p * b + q * d), .int .i64 (r * a + s * c), .int .i64 (r * b + s * d)])
 | _ => none
def FMatThen : Fam := ⟨Int × Int × Int × Int × Int × Int × Int × Int, fun (a, b, c, d, p, q, r, s) => [.agg [.int .i64 a, .int .i64 b, .int .i64 c, .int .i64 d], .agg [.int .i64 p, .int .i64 q, .int .i64 r, .int .i64 s]], fun (a, b, c, d, p, q, r, s) => (unitI a ∧ unitI b ∧ unitI c ∧ unitI d) ∧ unitI p ∧ unitI q ∧ unitI r ∧ unitI s, fun (a, b, c, d, p, q, r, s) => .agg [.int .i64 (p * a + q * c), .int .i64 (p * b + q * d), .int .i64 (r * a + s * c), .int .i64 (r * b + s * d)]⟩
set_option maxHeartbeats 4000000 in
set_option maxRecDepth 100000 in
theorem pMatThen : PS nMatThen kMatThen := by
 refine con [(nMatOf, kMatOf)] (by simpa using pMatOf) FMatThen (fun _ _ => none) kMatThen ?_ ?_ Go.Proofs.Tryz.func132 (by kernel_rfl) (by kernel_rfl) (by kernel_rfl) ?_
 ·
  intro args pre s h hp
  unfold kMatThen at h
  split at h
  ·
   rename_i a b c d p q r s; cases h; exact ⟨(a, b, c, d, p, q, r, s), by simp [FMatThen, le2L, SV.le2, SV.le1, le0L, SV.le0], hp, rfl⟩
  ·
   cases h
 ·
  intro i; show 2 ≤ _; decide
 ·
  rintro ⟨a, b, c, d, p, q, r, s⟩ hp
  replace hp : (unitI a ∧ unitI b ∧ unitI c ∧ unitI d) ∧ unitI p ∧ unitI q ∧ unitI r ∧ unitI s := hp
  obtain ⟨⟨ha, hb, hc, hd⟩, hP, hQ, hR, hS⟩ := hp
  repeat' (first | ((with_reducible refine And.intro (Ask.mk ?_) ?_); first | exact trivial | exact fun _ => trivial) | with_reducible refine And.intro ?_ ?_ | ((with_reducible refine Br.litT ?_ ?_); exact (Eq.refl true)) | ((with_reducible refine Br.litF ?_ ?_); exact (Eq.refl false)) | with_reducible refine Br.mk (fun h => ?_) (fun h => ?_) | with_reducible exact True.intro | with_reducible refine rowEq ?_ | with_reducible refine Ub.mk (fun hu => ?_) | ((with_reducible refine Late.mk ?_); exact rfl) | ((fail_if_success (with_reducible first | refine stopA ?_ | refine stopE ?_ | refine stopF ?_ | refine Exists.intro ?_ ?_ | intro _ | refine stopK ?_ | refine stopL ?_)); conv => whnf))
  all_goals (try with_reducible refine Ask.mk ?_)
  all_goals (try first | exact trivial | exact fun _ => trivial)
  all_goals (try dsimp only)
  all_goals (first | rfl | (simp only [unitI] at *; refine ⟨hP, hQ, hR, hS, ?_⟩; omega))
def rowM (i : Nat) (a b c d : Int) : Bool := decide (tb [1, 0, -1, 0, -1, 0, 1, 0] i = a) && (decide (tb [0, -1, 0, 1, 0, -1, 0, 1] i = b) && (decide (tb [0, 1, 0, -1, 0, -1, 0, 1] i = c) && (decide (tb [1, 0, -1, 0, 1, 0, -1, 0] i = d) && true)))
def numF (l : List Nat) (a b c d : Int) : Int := match l with
 | [] => 0
 | i :: l => bif rowM i a b c d then i else numF l a b c d
def numM (a b c d : Int) : Int := numF [0, 1, 2, 3, 4, 5, 6, 7] a b c d
def turnsAgg : SV := .agg (turnsRow 0 ++ turnsRow 1 ++ turnsRow 2 ++ turnsRow 3 ++ turnsRow 4 ++ turnsRow 5 ++ turnsRow 6 ++ turnsRow 7)
def INum : Int × Int × Int × Int → Nat → Option Inv
 | (a, b, c, d), 2 => some { β := Nat, ok := fun i => i ≤ 8 ∧ numM a b c d = numF ([0, 1, 2, 3, 4, 5, 6, 7].drop i) a b c d, st := fun i => ⟨[⟨6, none, .int .i64 i⟩, ⟨5, none, turnsAgg⟩, ⟨2, none, .int .u8 0⟩, ⟨1, none, .own 0 0⟩], [.cells 223 [.int .i64 a, .int .i64 b, .int .i64 c, .int .i64 d]]⟩, μ := fun i => 8 - i }
 | _, _ => none
theorem num_step (i : Nat) (l : List Nat) (a b c d : Int) (h : rowM i a b c d = false) : numF (i :: l) a b c d = numF l a b c d := by
 rw [numF, h, cond_false]
theorem num_hit (i : Nat) (l : List Nat) (a b c d : Int) (h : rowM i a b c d = true) : numF (i :: l) a b c d = i := by
 rw [numF, h, cond_true]
abbrev nNumber : FuncId := 131
def kNumber : Kon
 | [.agg [.int .i64 a, .int .i64 b, .int .i64 c, .int .i64 d]] => some (True, .int .u8 (numM a b c d))
 | _ => none
def FNumber : Fam := ⟨Int × Int × Int × Int, fun (a, b, c, d) => [.agg [.int .i64 a, .int .i64 b, .int .i64 c, .int .i64 d]], fun (a, b, c, d) => True, fun (a, b, c, d) => .int .u8 (numM a b c d)⟩
set_option maxHeartbeats 4000000 in
set_option maxRecDepth 100000 in
theorem pNumber : PS nNumber kNumber := by
 refine con [] (by simp) FNumber INum kNumber ?_ ?_ Go.Proofs.Tryz.func131 (by kernel_rfl) (by kernel_rfl) (by kernel_rfl) ?_
 ·
  intro args pre s h hp
  unfold kNumber at h
  split at h
  ·
   rename_i a b c d; cases h; exact ⟨(a, b, c, d), by simp [FNumber, le2L, SV.le2, SV.le1, le0L, SV.le0], hp, rfl⟩
  ·
   cases h
 ·
  intro i; show 1 ≤ _; decide
 ·
  rintro ⟨a, b, c, d⟩ hp
  replace hp : True := hp
  repeat' (first | ((with_reducible refine And.intro (Ask.mk ?_) ?_); first | exact trivial | exact fun _ => trivial) | with_reducible refine And.intro ?_ ?_ | ((with_reducible refine Br.litT ?_ ?_); exact (Eq.refl true)) | ((with_reducible refine Br.litF ?_ ?_); exact (Eq.refl false)) | with_reducible refine Br.mk (fun h => ?_) (fun h => ?_) | with_reducible exact True.intro | with_reducible refine rowEq ?_ | with_reducible refine Ub.mk (fun hu => ?_) | ((with_reducible refine Late.mk ?_); exact rfl) | ((fail_if_success (with_reducible first | refine stopA ?_ | refine stopE ?_ | refine stopF ?_ | refine Exists.intro ?_ ?_ | intro _ | refine stopK ?_ | refine stopL ?_)); conv => whnf))
  all_goals (try with_reducible refine Ask.mk ?_)
  all_goals (try first | exact trivial | exact fun _ => trivial)
  all_goals (try dsimp only)
  refine ⟨(0 : Nat), ⟨by omega, rfl⟩, ?_, ?_⟩
  ·
   repeat' (first | ((with_reducible refine And.intro (Ask.mk ?_) ?_); first | exact trivial | exact fun _ => trivial) | with_reducible refine And.intro ?_ ?_ | ((with_reducible refine Br.litT ?_ ?_); exact (Eq.refl true)) | ((with_reducible refine Br.litF ?_ ?_); exact (Eq.refl false)) | with_reducible refine Br.mk (fun h => ?_) (fun h => ?_) | with_reducible exact True.intro | with_reducible refine rowEq ?_ | with_reducible refine Ub.mk (fun hu => ?_) | ((with_reducible refine Late.mk ?_); exact rfl) | ((fail_if_success (with_reducible first | refine stopA ?_ | refine stopE ?_ | refine stopF ?_ | refine Exists.intro ?_ ?_ | intro _ | refine stopK ?_ | refine stopL ?_)); conv => whnf))
   all_goals (try with_reducible refine Ask.mk ?_)
   all_goals (try first | exact trivial | exact fun _ => trivial)
   all_goals (try dsimp only)
   all_goals first | rfl | exact fun _ _ => rfl | skip
  ·
   intro i hi
   obtain ⟨hi1, hi2⟩ := hi
   have : i = 0 ∨ i = 1 ∨ i = 2 ∨ i = 3 ∨ i = 4 ∨ i = 5 ∨ i = 6 ∨ i = 7 ∨ i = 8 := by omega
   rcases this with rfl | rfl | rfl | rfl | rfl | rfl | rfl | rfl | rfl
   all_goals replace hi2 := hi2
   repeat' (first | ((with_reducible refine And.intro (Ask.mk ?_) ?_); first | exact trivial | exact fun _ => trivial) | with_reducible refine And.intro ?_ ?_ | ((with_reducible refine Br.litT ?_ ?_); exact (Eq.refl true)) | ((with_reducible refine Br.litF ?_ ?_); exact (Eq.refl false)) | with_reducible refine Br.mk (fun h => ?_) (fun h => ?_) | with_reducible exact True.intro | with_reducible refine rowEq ?_ | with_reducible refine Ub.mk (fun hu => ?_) | ((with_reducible refine Late.mk ?_); exact rfl) | ((fail_if_success (with_reducible first | refine stopA ?_ | refine stopE ?_ | refine stopF ?_ | refine Exists.intro ?_ ?_ | intro _ | refine stopK ?_ | refine stopL ?_)); conv => whnf))
   all_goals (try with_reducible refine Ask.mk ?_)
   all_goals (try first | exact trivial | exact fun _ => trivial)
   all_goals (try dsimp only)
   all_goals (first
    | decide
    | (simp only [inK]; omega)
    | exact hi2.symm
    | exact (hi2.trans (num_hit _ _ _ _ _ _ h)).symm
    | (first | refine ⟨(1 : Nat), ⟨by decide, hi2.trans (num_step 0 _ _ _ _ _ h)⟩, by decide, ?_⟩ | refine ⟨(2 : Nat), ⟨by decide, hi2.trans (num_step 1 _ _ _ _ _ h)⟩, by decide, ?_⟩ | refine ⟨(3 : Nat), ⟨by decide, hi2.trans (num_step 2 _ _ _ _ _ h)⟩, by decide, ?_⟩ | refine ⟨(4 : Nat), ⟨by decide, hi2.trans (num_step 3 _ _ _ _ _ h)⟩, by decide, ?_⟩ | refine ⟨(5 : Nat), ⟨by decide, hi2.trans (num_step 4 _ _ _ _ _ h)⟩, by decide, ?_⟩ | refine ⟨(6 : Nat), ⟨by decide, hi2.trans (num_step 5 _ _ _ _ _ h)⟩, by decide, ?_⟩ | refine ⟨(7 : Nat), ⟨by decide, hi2.trans (num_step 6 _ _ _ _ _ h)⟩, by decide, ?_⟩ | refine ⟨(8 : Nat), ⟨by decide, hi2.trans (num_step 7 _ _ _ _ _ h)⟩, by decide, ?_⟩))
   repeat' (first | ((with_reducible refine And.intro (Ask.mk ?_) ?_); first | exact trivial | exact fun _ => trivial) | with_reducible refine And.intro ?_ ?_ | ((with_reducible refine Br.litT ?_ ?_); exact (Eq.refl true)) | ((with_reducible refine Br.litF ?_ ?_); exact (Eq.refl false)) | with_reducible refine Br.mk (fun h => ?_) (fun h => ?_) | with_reducible exact True.intro | with_reducible refine rowEq ?_ | with_reducible refine Ub.mk (fun hu => ?_) | ((with_reducible refine Late.mk ?_); exact rfl) | ((fail_if_success (with_reducible first | refine stopA ?_ | refine stopE ?_ | refine stopF ?_ | refine Exists.intro ?_ ?_ | intro _ | refine stopK ?_ | refine stopL ?_)); conv => whnf))
   all_goals (try with_reducible refine Ask.mk ?_)
   all_goals (try first | exact trivial | exact fun _ => trivial)
   all_goals (try dsimp only)
   all_goals first | rfl | exact fun _ _ => rfl | omega
def cT (t u : Int) : Int := numM (tA u * tA t + tB u * tC t) (tA u * tB t + tB u * tD t) (tC u * tA t + tD u * tC t) (tC u * tB t + tD u * tD t)
theorem cT_le {t u : Int} (h0 : 0 ≤ t) (h1 : t < 8) (k0 : 0 ≤ u) (k1 : u < 8) : 0 ≤ cT t u ∧ cT t u < 8 := by
 have : ∀ q : Nat, q < 8 → ∀ r : Nat, r < 8 → 0 ≤ cT q r ∧ cT q r < 8 := by decide +kernel
 have := this t.toNat (by omega) u.toNat (by omega)
 rwa [Int.toNat_of_nonneg h0, Int.toNat_of_nonneg k0] at this
abbrev nBeyond : FuncId := 188
def kBeyond : Kon
 | [.int .i64 n] => some (True, .bool (or (decide (n < -16384)) (decide (16384 < n))))
 | _ => none
def FBeyond : Fam := ⟨Int, fun n => [.int .i64 n], fun n => True, fun n => .bool (or (decide (n < -16384)) (decide (16384 < n)))⟩
set_option maxHeartbeats 4000000 in
set_option maxRecDepth 100000 in
theorem pBeyond : PS nBeyond kBeyond := by
 refine con [] (by simp) FBeyond (fun _ _ => none) kBeyond ?_ ?_ Go.Proofs.Tryz.func188 (by kernel_rfl) (by kernel_rfl) (by kernel_rfl) ?_
 ·
  intro args pre s h hp
  unfold kBeyond at h
  split at h
  ·
   rename_i n; cases h; exact ⟨n, by simp [FBeyond, le2L, SV.le2, SV.le1, le0L, SV.le0], hp, rfl⟩
  ·
   cases h
 ·
  intro i; show 1 ≤ _; decide
 ·
  intro (n : Int) hp
  replace hp : True := hp
  repeat' (first | ((with_reducible refine And.intro (Ask.mk ?_) ?_); first | exact trivial | exact fun _ => trivial) | with_reducible refine And.intro ?_ ?_ | ((with_reducible refine Br.litT ?_ ?_); exact (Eq.refl true)) | ((with_reducible refine Br.litF ?_ ?_); exact (Eq.refl false)) | with_reducible refine Br.mk (fun h => ?_) (fun h => ?_) | with_reducible exact True.intro | with_reducible refine rowEq ?_ | with_reducible refine Ub.mk (fun hu => ?_) | ((with_reducible refine Late.mk ?_); exact rfl) | ((fail_if_success (with_reducible first | refine stopA ?_ | refine stopE ?_ | refine stopF ?_ | refine Exists.intro ?_ ?_ | intro _ | refine stopK ?_ | refine stopL ?_)); conv => whnf))
  all_goals (try with_reducible refine Ask.mk ?_)
  all_goals (try first | exact trivial | exact fun _ => trivial)
  all_goals (try dsimp only)
  all_goals rfl
def mvErr (t x y : Int) : Int := if t < 8 ∧ -16384 ≤ x ∧ x ≤ 16384 ∧ -16384 ≤ y ∧ y ≤ 16384 ∧ (x + y) % 2 = 0 then 0 else 1
theorem mvErr_zero {t x y : Int} (h : mvErr t x y = 0) : t < 8 ∧ -16384 ≤ x ∧ x ≤ 16384 ∧ -16384 ≤ y ∧ y ≤ 16384 ∧ (x + y) % 2 = 0 := by
 unfold mvErr at h
 split at h
 ·
  assumption
 ·
  cases h
theorem tmod2 (n : Int) : n.tmod 2 = 0 ↔ n % 2 = 0 := by
 rw [← Int.dvd_iff_emod_eq_zero, Int.dvd_iff_tmod_eq_zero]
abbrev nMvCheck : FuncId := 121
def kMvCheck : Kon
 | [.agg [.int .u8 t, .int .i64 x, .int .i64 y]] => some (0 ≤ t ∧ t ≤ 255, .int .i64 (mvErr t x y))
 | _ => none
def FMvCheck : Fam := ⟨Int × Int × Int, fun (t, x, y) => [.agg [.int .u8 t, .int .i64 x, .int .i64 y]], fun (t, x, y) => 0 ≤ t ∧ t ≤ 255, fun (t, x, y) => .int .i64 (mvErr t x y)⟩
set_option maxHeartbeats 4000000 in
set_option maxRecDepth 100000 in
theorem pMvCheck : PS nMvCheck kMvCheck := by
 refine con [(nBeyond, kBeyond)] (by simpa using pBeyond) FMvCheck (fun _ _ => none) kMvCheck ?_ ?_ Go.Proofs.Tryz.func121 (by kernel_rfl) (by kernel_rfl) (by kernel_rfl) ?_
 ·
  intro args pre s h hp
  unfold kMvCheck at h
  split at h
  ·
   rename_i t x y; cases h; exact ⟨(t, x, y), by simp [FMvCheck, le2L, SV.le2, SV.le1, le0L, SV.le0], hp, rfl⟩
  ·
   cases h
 ·
  intro i; show 1 ≤ _; decide
 ·
  rintro ⟨t, x, y⟩ hp
  replace hp : 0 ≤ t ∧ t ≤ 255 := hp
  repeat' (first | ((with_reducible refine And.intro (Ask.mk ?_) ?_); first | exact trivial | exact fun _ => trivial) | with_reducible refine And.intro ?_ ?_ | ((with_reducible refine Br.litT ?_ ?_); exact (Eq.refl true)) | ((with_reducible refine Br.litF ?_ ?_); exact (Eq.refl false)) | with_reducible refine Br.mk (fun h => ?_) (fun h => ?_) | with_reducible exact True.intro | with_reducible refine rowEq ?_ | with_reducible refine Ub.mk (fun hu => ?_) | ((with_reducible refine Late.mk ?_); exact rfl) | ((fail_if_success (with_reducible first | refine stopA ?_ | refine stopE ?_ | refine stopF ?_ | refine Exists.intro ?_ ?_ | intro _ | refine stopK ?_ | refine stopL ?_)); conv => whnf))
  all_goals (try with_reducible refine Ask.mk ?_)
  all_goals (try first | exact trivial | exact fun _ => trivial)
  all_goals (try dsimp only)
  all_goals (try (simp only [Bool.or_eq_true, Bool.or_eq_false_iff, Bool.not_eq_true', Bool.not_eq_false', decide_eq_true_eq, decide_eq_false_iff_not] at *))
  all_goals (first
   | decide
   | (simp only [inK]; omega)
   | (unfold mvErr; rw [if_neg (by omega)])
   | (intro _; decide)
   | (intros; simp only [inK]; omega)
   | (intros; unfold mvErr; rw [if_neg (by omega)])
   | (have e := tmod2 (x + y); unfold mvErr; rw [if_pos (by omega)])
   | (have e := tmod2 (x + y); unfold mvErr; rw [if_neg (by omega)]))
def lmE (t x y : Int) : Int := if mvErr t x y = 0 then 0 else 3
def keep (e v : Int) : Int := if e = 0 then v else 0
abbrev nLimited : FuncId := 130
def kLimited : Kon
 | [.agg [.int .u8 t, .int .i64 x, .int .i64 y]] => some (0 ≤ t ∧ t ≤ 255, .tup [.agg [.int .u8 (keep (lmE t x y) t), .int .i64 (keep (lmE t x y) x), .int .i64 (keep (lmE t x y) y)], .int .i64 (lmE t x y)])
 | _ => none
def FLimited : Fam := ⟨Int × Int × Int, fun (t, x, y) => [.agg [.int .u8 t, .int .i64 x, .int .i64 y]], fun (t, x, y) => 0 ≤ t ∧ t ≤ 255, fun (t, x, y) => .tup [.agg [.int .u8 (keep (lmE t x y) t), .int .i64 (keep (lmE t x y) x), .int .i64 (keep (lmE t x y) y)], .int .i64 (lmE t x y)]⟩
set_option maxHeartbeats 4000000 in
set_option maxRecDepth 100000 in
theorem pLimited : PS nLimited kLimited := by
 refine con [(nMvCheck, kMvCheck)] (by simpa using pMvCheck) FLimited (fun _ _ => none) kLimited ?_ ?_ Go.Proofs.Tryz.func130 (by kernel_rfl) (by kernel_rfl) (by kernel_rfl) ?_
 ·
  intro args pre s h hp
  unfold kLimited at h
  split at h
  ·
   rename_i t x y; cases h; exact ⟨(t, x, y), by simp [FLimited, le2L, SV.le2, SV.le1, le0L, SV.le0], hp, rfl⟩
  ·
   cases h
 ·
  intro i; show 1 ≤ _; decide
 ·
  rintro ⟨t, x, y⟩ hp
  replace hp : 0 ≤ t ∧ t ≤ 255 := hp
  repeat' (first | ((with_reducible refine And.intro (Ask.mk ?_) ?_); first | exact trivial | exact fun _ => trivial) | with_reducible refine And.intro ?_ ?_ | ((with_reducible refine Br.litT ?_ ?_); exact (Eq.refl true)) | ((with_reducible refine Br.litF ?_ ?_); exact (Eq.refl false)) | with_reducible refine Br.mk (fun h => ?_) (fun h => ?_) | with_reducible exact True.intro | with_reducible refine rowEq ?_ | with_reducible refine Ub.mk (fun hu => ?_) | ((with_reducible refine Late.mk ?_); exact rfl) | ((fail_if_success (with_reducible first | refine stopA ?_ | refine stopE ?_ | refine stopF ?_ | refine Exists.intro ?_ ?_ | intro _ | refine stopK ?_ | refine stopL ?_)); conv => whnf))
  all_goals (try with_reducible refine Ask.mk ?_)
  all_goals (try first | exact trivial | exact fun _ => trivial)
  all_goals (try dsimp only)
  all_goals (try exact hp)
  all_goals (simp only [Bool.not_eq_true', Bool.not_eq_false', decide_eq_true_eq, decide_eq_false_iff_not] at h)
  all_goals (simp [keep, lmE, h])
def turnX (t x y : Int) : Int := tA t * x + tB t * y
def turnY (t x y : Int) : Int := tC t * x + tD t * y
def thE (t x y u z w : Int) : Int := if mvErr t x y = 0 ∧ mvErr u z w = 0 then lmE (cT t u) (turnX u x y + z) (turnY u x y + w) else 1
def thT (t x y u z w : Int) : Int := keep (thE t x y u z w) (cT t u)
def thX (t x y u z w : Int) : Int := keep (thE t x y u z w) (turnX u x y + z)
def thY (t x y u z w : Int) : Int := keep (thE t x y u z w) (turnY u x y + w)
theorem turn_le {t x y B : Int} (h0 : 0 ≤ t) (h1 : t < 8) (a1 : -B ≤ x) (a2 : x ≤ B) (b1 : -B ≤ y) (b2 : y ≤ B) : -(2 * B) ≤ turnX t x y ∧ turnX t x y ≤ 2 * B ∧ -(2 * B) ≤ turnY t x y ∧ turnY t x y ≤ 2 * B := by
 obtain ⟨ha, hb, hc, hd⟩ := t_unit h0 h1
 have e1 := unit_mul (x := x) ha
 have e2 := unit_mul (x := y) hb
 have e3 := unit_mul (x := x) hc
 have e4 := unit_mul (x := y) hd
 unfold turnX turnY
 omega
abbrev nThen : FuncId := 62
def kThen : Kon
 | [.agg [.int .u8 t, .int .i64 x, .int .i64 y], .agg [.int .u8 u, .int .i64 z, .int .i64 w]] => some ((0 ≤ t ∧ t ≤ 255) ∧ 0 ≤ u ∧ u ≤ 255, .tup [.agg [.int .u8 (thT t x y u z w), .int .i64 (thX t x y u z w), .int .i64 (thY t x y u z w)], .int .i64 (thE t x y u z w)])
 | _ => none
def FThen : Fam := ⟨Int × Int × Int × Int × Int × Int, fun (t, x, y, u, z, w) => [.agg [.int .u8 t, .int .i64 x, .int .i64 y], .agg [.int .u8 u, .int .i64 z, .int .i64 w]], fun (t, x, y, u, z, w) => (0 ≤ t ∧ t ≤ 255) ∧ 0 ≤ u ∧ u ≤ 255, fun (t, x, y, u, z, w) => .tup [.agg [.int .u8 (thT t x y u z w), .int .i64 (thX t x y u z w), .int .i64 (thY t x y u z w)], .int .i64 (thE t x y u z w)]⟩
set_option maxHeartbeats 4000000 in
set_option maxRecDepth 100000 in
theorem pThen : PS nThen kThen := by
  refine con [(nMvCheck, kMvCheck), (nMatOf, kMatOf), (nMatThen, kMatThen), (nNumber, kNumber), (nLimited, kLimited)] (by simpa using ⟨pMvCheck, pMatOf, pMatThen, pNumber, pLimited⟩) FThen (fun _ _ => none) kThen ?_ ?_ Go.Proofs.Tryz.func62 (by kernel_rfl) (by kernel_rfl) (by kernel_rfl) ?_
  · intro args pre s h hp
    unfold kThen at h
    split at h
    · rename_i t x y u z w; cases h; exact ⟨(t, x, y, u, z, w), by simp [FThen, le2L, SV.le2, SV.le1, le0L, SV.le0], hp, rfl⟩
    · cases h
  · intro i; show 2 ≤ _; decide
  · rintro ⟨t, x, y, u, z, w⟩ hp
    replace hp : (0 ≤ t ∧ t ≤ 255) ∧ 0 ≤ u ∧ u ≤ 255 := hp
    repeat' (first | ((with_reducible refine And.intro (Ask.mk ?_) ?_); first | exact trivial | exact fun _ => trivial) | with_reducible refine And.intro ?_ ?_ | ((with_reducible refine Br.litT ?_ ?_); exact (Eq.refl true)) | ((with_reducible refine Br.litF ?_ ?_); exact (Eq.refl false)) | with_reducible refine Br.mk (fun h => ?_) (fun h => ?_) | with_reducible exact True.intro | with_reducible refine rowEq ?_ | with_reducible refine Ub.mk (fun hu => ?_) | ((with_reducible refine Late.mk ?_); exact rfl) | ((fail_if_success (with_reducible first | refine stopA ?_ | refine stopE ?_ | refine stopF ?_ | refine Exists.intro ?_ ?_ | intro _ | refine stopK ?_ | refine stopL ?_)); conv => whnf))
    all_goals (try with_reducible refine Ask.mk ?_)
    all_goals (try first | exact trivial | exact fun _ => trivial)
    all_goals (try dsimp only)
    all_goals (first
      | exact hp.1
      | exact fun _ => hp.2
      | (have e : thE t x y u z w = 1 := by grind [thE]
         simp [thT, thX, thY, keep, e]; done)
      | (rw [Bool.or_eq_false_iff] at h
         have e1 : mvErr t x y = 0 := by simpa using h.1
         have e2 : mvErr u z w = 0 := by simpa using h.2
         have m1 := mvErr_zero e1
         have m2 := mvErr_zero e2
         have r := turn_le (t := u) (x := x) (y := y) (B := 16384) hp.2.1 m2.1 (by omega) (by omega) (by omega) (by omega)
         have c := cT_le hp.1.1 m1.1 hp.2.1 m2.1
         have u1 := t_unit hp.1.1 m1.1
         have u2 := t_unit hp.2.1 m2.1
         first
         | (constructor <;> omega)
         | exact ⟨u2.1, u2.2.1, u2.2.2.1, u2.2.2.2, by omega, by omega, by omega, by omega⟩
         | exact ⟨u1, u2⟩
         | (change inK .i64 (turnX u x y + z); simp only [inK]; omega)
         | (change inK .i64 (turnY u x y + w); simp only [inK]; omega)
         | (refine ⟨c.1, ?_⟩; change cT t u ≤ 255; omega)
         | (have e : thE t x y u z w = lmE (cT t u) (turnX u x y + z) (turnY u x y + w) := by unfold thE; rw [if_pos ⟨e1, e2⟩]
            first | exact e.symm | (unfold thT; rw [e]; rfl) | (unfold thX; rw [e]; rfl) | (unfold thY; rw [e]; rfl)))
      | trace_state)
def poE (t x y a b : Int) : Int := if mvErr t x y = 0 ∧ ptErr a b = 0 then (if ptErr (turnX t a b + 2 * x) (turnY t a b + 2 * y) = 0 then 0 else 3) else 1
def poX (t x y a b : Int) : Int := keep (poE t x y a b) (turnX t a b + 2 * x)
def poY (t x y a b : Int) : Int := keep (poE t x y a b) (turnY t a b + 2 * y)
abbrev nMvPoint : FuncId := 264
def kMvPoint : Kon
 | [.agg [.int .u8 t, .int .i64 x, .int .i64 y], .agg [.int .i64 a, .int .i64 b]] => some (0 ≤ t ∧ t ≤ 255, .tup [.agg [.int .i64 (poX t x y a b), .int .i64 (poY t x y a b)], .int .i64 (poE t x y a b)])
 | _ => none
def FMvPoint : Fam := ⟨Int × Int × Int × Int × Int, fun (t, x, y, a, b) => [.agg [.int .u8 t, .int .i64 x, .int .i64 y], .agg [.int .i64 a, .int .i64 b]], fun (t, x, y, a, b) => 0 ≤ t ∧ t ≤ 255, fun (t, x, y, a, b) => .tup [.agg [.int .i64 (poX t x y a b), .int .i64 (poY t x y a b)], .int .i64 (poE t x y a b)]⟩
set_option maxHeartbeats 4000000 in
set_option maxRecDepth 100000 in
theorem pMvPoint : PS nMvPoint kMvPoint := by
  refine con [(nMvCheck, kMvCheck), (nMatOf, kMatOf), (nPtCheck, kPtCheck)] (by simpa using ⟨pMvCheck, pMatOf, pPtCheck⟩) FMvPoint (fun _ _ => none) kMvPoint ?_ ?_ Go.Proofs.Tryz.func264 (by kernel_rfl) (by kernel_rfl) (by kernel_rfl) ?_
  · intro args pre s h hp
    unfold kMvPoint at h
    split at h
    · rename_i t x y a b; cases h; exact ⟨(t, x, y, a, b), by simp [FMvPoint, le2L, SV.le2, SV.le1, le0L, SV.le0], hp, rfl⟩
    · cases h
  · intro i; show 2 ≤ _; decide
  · rintro ⟨t, x, y, a, b⟩ hp
    replace hp : 0 ≤ t ∧ t ≤ 255 := hp
    repeat' (first | ((with_reducible refine And.intro (Ask.mk ?_) ?_); first | exact trivial | exact fun _ => trivial) | with_reducible refine And.intro ?_ ?_ | ((with_reducible refine Br.litT ?_ ?_); exact (Eq.refl true)) | ((with_reducible refine Br.litF ?_ ?_); exact (Eq.refl false)) | with_reducible refine Br.mk (fun h => ?_) (fun h => ?_) | with_reducible exact True.intro | with_reducible refine rowEq ?_ | with_reducible refine Ub.mk (fun hu => ?_) | ((with_reducible refine Late.mk ?_); exact rfl) | ((fail_if_success (with_reducible first | refine stopA ?_ | refine stopE ?_ | refine stopF ?_ | refine Exists.intro ?_ ?_ | intro _ | refine stopK ?_ | refine stopL ?_)); conv => whnf))
    all_goals (try with_reducible refine Ask.mk ?_)
    all_goals (try first | exact trivial | exact fun _ => trivial)
    all_goals (try dsimp only)
    all_goals (first
      | exact hp
      | (have e : poE t x y a b = 1 := by grind [poE]
         simp [poX, poY, keep, e]; done)
      | (have h1 : (!decide (mvErr t x y = 0) || !decide (ptErr a b = 0)) = false := by assumption
         rw [Bool.or_eq_false_iff] at h1
         have e1 : mvErr t x y = 0 := by simpa using h1.1
         have e2 : ptErr a b = 0 := by simpa using h1.2
         have m1 := mvErr_zero e1
         have m2 := ptErr_zero e2
         have r := turn_le (t := t) (x := a) (y := b) (B := 65536) hp.1 m1.1 (by omega) (by omega) (by omega) (by omega)
         have u1 := t_unit hp.1 m1.1
         first
         | (constructor <;> omega)
         | exact ⟨u1.1, u1.2.1, u1.2.2.1, u1.2.2.2, by omega, by omega, by omega, by omega⟩
         | (change inK .i64 (turnX t a b + 2 * x); simp only [inK]; omega)
         | (change inK .i64 (turnY t a b + 2 * y); simp only [inK]; omega)
         | (simp only [inK]; omega)
         | (have e : poE t x y a b = (if ptErr (turnX t a b + 2 * x) (turnY t a b + 2 * y) = 0 then 0 else 3) := by unfold poE; rw [if_pos ⟨e1, e2⟩]
            first
            | (have q : ptErr (turnX t a b + 2 * x) (turnY t a b + 2 * y) = 0 := by (change (!decide (ptErr (turnX t a b + 2 * x) (turnY t a b + 2 * y) = 0)) = false at h; simpa using h)
               rw [if_pos q] at e
               simp only [poX, poY, keep, e, if_true]; try rfl)
            | (have q : ¬ ptErr (turnX t a b + 2 * x) (turnY t a b + 2 * y) = 0 := by (change (!decide (ptErr (turnX t a b + 2 * x) (turnY t a b + 2 * y) = 0)) = true at h; simpa using h)
               rw [if_neg q] at e
               simp [poX, poY, keep, e]; done)))
      | trace_state)
def shErr (W H : Int) : Int := if 1 ≤ W ∧ 1 ≤ H ∧ W ≤ 256 ∧ H ≤ 256 ∧ W * H ≤ 256 then 0 else 1
theorem shErr_mul {W H : Int} (h1 : 1 ≤ W) (h2 : 1 ≤ H) (h3 : W ≤ 256) (h4 : H ≤ 256) : 1 ≤ W * H ∧ W * H ≤ 65536 := by
 have a : 1 * 1 ≤ W * H := Int.mul_le_mul h1 h2 (by omega) (by omega)
 have b : W * H ≤ 256 * 256 := Int.mul_le_mul h3 h4 (by omega) (by omega)
 omega
abbrev nSheetsCheck : FuncId := 18
def kSheetsCheck : Kon
 | [.agg [.int .i64 W, .int .i64 H]] => some (True, .int .i64 (shErr W H))
 | _ => none
def FSheetsCheck : Fam := ⟨Int × Int, fun (W, H) => [.agg [.int .i64 W, .int .i64 H]], fun _ => True, fun (W, H) => .int .i64 (shErr W H)⟩
set_option maxRecDepth 100000 in
theorem pSheetsCheck : PS 18 kSheetsCheck := by
 refine con [] (by simp) FSheetsCheck (fun _ _ => none) kSheetsCheck ?_ ?_ Go.Proofs.Tryz.func18 (by kernel_rfl) (by kernel_rfl) (by kernel_rfl) ?_
 ·
  intro args pre s h hp
  unfold kSheetsCheck at h
  split at h
  ·
   rename_i W H; cases h; exact ⟨(W, H), by simp [FSheetsCheck, le2L, SV.le2, SV.le1, le0L, SV.le0], trivial, rfl⟩
  ·
   cases h
 ·
  intro i; show 1 ≤ _; decide
 ·
  rintro ⟨W, H⟩ -
  repeat' (first | ((with_reducible refine And.intro (Ask.mk ?_) ?_); first | exact trivial | exact fun _ => trivial) | with_reducible refine And.intro ?_ ?_ | ((with_reducible refine Br.litT ?_ ?_); exact (Eq.refl true)) | ((with_reducible refine Br.litF ?_ ?_); exact (Eq.refl false)) | with_reducible refine Br.mk (fun h => ?_) (fun h => ?_) | with_reducible exact True.intro | with_reducible refine rowEq ?_ | with_reducible refine Ub.mk (fun hu => ?_) | ((with_reducible refine Late.mk ?_); exact rfl) | ((fail_if_success (with_reducible first | refine stopA ?_ | refine stopE ?_ | refine stopF ?_ | refine Exists.intro ?_ ?_ | intro _ | refine stopK ?_ | refine stopL ?_)); conv => whnf))
  all_goals (try with_reducible refine Ask.mk ?_)
  all_goals (try first | exact trivial | exact fun _ => trivial)
  all_goals (try dsimp only)
  ·
   intro h
   simp at h
   have := shErr_mul (W := W) (H := H) (by omega) (by omega) (by omega) (by omega)
   simp only [inK]; omega
  ·
   simp [shErr] at h ⊢; omega
  ·
   simp [shErr] at h ⊢; omega
def hasB (W H i : Int) : Bool := decide (0 ≤ i) && decide (i < 4 * W * H)
def kHas : Kon
 | [.agg [.int .i64 W, .int .i64 H], .int .i64 i] => some (shErr W H = 0, .bool (hasB W H i))
 | _ => none
def FHas : Fam := ⟨Int × Int × Int, fun (W, H, i) => [.agg [.int .i64 W, .int .i64 H], .int .i64 i], fun (W, H, i) => shErr W H = 0, fun (W, H, i) => .bool (hasB W H i)⟩
theorem shErr_zero {W H : Int} (h : shErr W H = 0) : 1 ≤ W ∧ 1 ≤ H ∧ W ≤ 256 ∧ H ≤ 256 ∧ 1 ≤ W * H ∧ W * H ≤ 256 ∧ 4 * W * H = 4 * (W * H) := by
 unfold shErr at h
 split at h
 ·
  rename_i hc
  obtain ⟨h1, h2, h3, h4, h5⟩ := hc
  have := shErr_mul h1 h2 h3 h4
  exact ⟨h1, h2, h3, h4, this.1, h5, Int.mul_assoc _ _ _⟩
 ·
  cases h
set_option maxRecDepth 100000 in
theorem pHas : PS 196 kHas := by
 refine con [] (by simp) FHas (fun _ _ => none) kHas ?_ ?_ Go.Proofs.Tryz.func196 (by kernel_rfl) (by kernel_rfl) (by kernel_rfl) ?_
 ·
  intro args pre s h hp
  unfold kHas at h
  split at h
  ·
   rename_i W H i; cases h; exact ⟨(W, H, i), by simp [FHas, le2L, SV.le2, SV.le1, le0L, SV.le0], hp, rfl⟩
  ·
   cases h
 ·
  intro i; show 2 ≤ _; decide
 ·
  rintro ⟨W, H, i⟩ hp
  obtain ⟨h1, h2, h3, h4, h5, h6, h7⟩ := shErr_zero hp
  repeat' (first | ((with_reducible refine And.intro (Ask.mk ?_) ?_); first | exact trivial | exact fun _ => trivial) | with_reducible refine And.intro ?_ ?_ | ((with_reducible refine Br.litT ?_ ?_); exact (Eq.refl true)) | ((with_reducible refine Br.litF ?_ ?_); exact (Eq.refl false)) | with_reducible refine Br.mk (fun h => ?_) (fun h => ?_) | with_reducible exact True.intro | with_reducible refine rowEq ?_ | with_reducible refine Ub.mk (fun hu => ?_) | ((with_reducible refine Late.mk ?_); exact rfl) | ((fail_if_success (with_reducible first | refine stopA ?_ | refine stopE ?_ | refine stopF ?_ | refine Exists.intro ?_ ?_ | intro _ | refine stopK ?_ | refine stopL ?_)); conv => whnf))
  all_goals (try with_reducible refine Ask.mk ?_)
  all_goals (try first | exact trivial | exact fun _ => trivial)
  all_goals (try dsimp only)
  ·
   intro _; simp only [inK]; omega
  ·
   intro _; simp only [inK]; omega
  ·
   rfl
def kCell : Kon
 | [.agg [.int .i64 W, .int .i64 H], .int .i64 i] => some (1 ≤ W ∧ W ≤ 256 ∧ 0 ≤ i ∧ i ≤ 1024, .agg [.int .i64 (i / 4 % W), .int .i64 (i / 4 / W), .int .u8 (i % 4)])
 | _ => none
def FCell : Fam := ⟨Int × Int × Int, fun (W, H, i) => [.agg [.int .i64 W, .int .i64 H], .int .i64 i], fun (W, H, i) => 1 ≤ W ∧ W ≤ 256 ∧ 0 ≤ i ∧ i ≤ 1024, fun (W, H, i) => .agg [.int .i64 (i / 4 % W), .int .i64 (i / 4 / W), .int .u8 (i % 4)]⟩
set_option maxRecDepth 100000 in
theorem pCell : PS 197 kCell := by
 refine con [] (by simp) FCell (fun _ _ => none) kCell ?_ ?_ Go.Proofs.Tryz.func197 (by kernel_rfl) (by kernel_rfl) (by kernel_rfl) ?_
 ·
  intro args pre s h hp
  unfold kCell at h
  split at h
  ·
   rename_i W H i; cases h; exact ⟨(W, H, i), by simp [FCell, le2L, SV.le2, SV.le1, le0L, SV.le0], hp, rfl⟩
  ·
   cases h
 ·
  intro i; show 2 ≤ _; decide
 ·
  rintro ⟨W, H, i⟩ ⟨h1, h2, h3, h4⟩
  have a1 : i.tdiv 4 = i / 4 := Int.tdiv_eq_ediv_of_nonneg h3
  have a2 : i.tmod 4 = i % 4 := Int.tmod_eq_emod_of_nonneg h3
  have a3 : (i / 4).tdiv W = i / 4 / W := Int.tdiv_eq_ediv_of_nonneg (by omega)
  have a4 : (i / 4).tmod W = i / 4 % W := Int.tmod_eq_emod_of_nonneg (by omega)
  have a5 : i / 4 / W ≤ i / 4 := Int.ediv_le_self _ (by omega)
  have a6 : 0 ≤ i / 4 / W := Int.ediv_nonneg (by omega) (by omega)
  repeat' (first | ((with_reducible refine And.intro (Ask.mk ?_) ?_); first | exact trivial | exact fun _ => trivial) | with_reducible refine And.intro ?_ ?_ | ((with_reducible refine Br.litT ?_ ?_); exact (Eq.refl true)) | ((with_reducible refine Br.litF ?_ ?_); exact (Eq.refl false)) | with_reducible refine Br.mk (fun h => ?_) (fun h => ?_) | with_reducible exact True.intro | with_reducible refine rowEq ?_ | with_reducible refine Ub.mk (fun hu => ?_) | ((with_reducible refine Late.mk ?_); exact rfl) | ((fail_if_success (with_reducible first | refine stopA ?_ | refine stopE ?_ | refine stopF ?_ | refine Exists.intro ?_ ?_ | intro _ | refine stopK ?_ | refine stopL ?_)); conv => whnf))
  all_goals (try with_reducible refine Ask.mk ?_)
  all_goals (try first | exact trivial | exact fun _ => trivial)
  all_goals (try dsimp only)
  all_goals (try simp only [a1, a2, a3, a4])
  all_goals (try simp only [inK])
  all_goals omega
def clErr (X Y Q : Int) : Int := if -4096 ≤ X ∧ X ≤ 4096 ∧ -4096 ≤ Y ∧ Y ≤ 4096 ∧ Q ≤ 3 then 0 else 1
abbrev nCellsCheck : FuncId := 124
def kCellsCheck : Kon
 | [.agg [.int .i64 X, .int .i64 Y, .int .u8 Q]] => some (True, .int .i64 (clErr X Y Q))
 | _ => none
def FCellsCheck : Fam := ⟨Int × Int × Int, fun (X, Y, Q) => [.agg [.int .i64 X, .int .i64 Y, .int .u8 Q]], fun _ => True, fun (X, Y, Q) => .int .i64 (clErr X Y Q)⟩
set_option maxRecDepth 100000 in
theorem pCellsCheck : PS 124 kCellsCheck := by
 refine con [] (by simp) FCellsCheck (fun _ _ => none) kCellsCheck ?_ ?_ Go.Proofs.Tryz.func124 (by kernel_rfl) (by kernel_rfl) (by kernel_rfl) ?_
 ·
  intro args pre s h hp
  unfold kCellsCheck at h
  split at h
  ·
   rename_i X Y Q; cases h; exact ⟨(X, Y, Q), by simp [FCellsCheck, le2L, SV.le2, SV.le1, le0L, SV.le0], trivial, rfl⟩
  ·
   cases h
 ·
  intro i; show 1 ≤ _; decide
 ·
  rintro ⟨X, Y, Q⟩ -
  repeat' (first | ((with_reducible refine And.intro (Ask.mk ?_) ?_); first | exact trivial | exact fun _ => trivial) | with_reducible refine And.intro ?_ ?_ | ((with_reducible refine Br.litT ?_ ?_); exact (Eq.refl true)) | ((with_reducible refine Br.litF ?_ ?_); exact (Eq.refl false)) | with_reducible refine Br.mk (fun h => ?_) (fun h => ?_) | with_reducible exact True.intro | with_reducible refine rowEq ?_ | with_reducible refine Ub.mk (fun hu => ?_) | ((with_reducible refine Late.mk ?_); exact rfl) | ((fail_if_success (with_reducible first | refine stopA ?_ | refine stopE ?_ | refine stopF ?_ | refine Exists.intro ?_ ?_ | intro _ | refine stopK ?_ | refine stopL ?_)); conv => whnf))
  all_goals (try with_reducible refine Ask.mk ?_)
  all_goals (try first | exact trivial | exact fun _ => trivial)
  all_goals (try dsimp only)
  ·
   simp [clErr] at h ⊢; omega
  ·
   simp [clErr] at h ⊢; omega
theorem clErr_zero {X Y Q : Int} (h : clErr X Y Q = 0) : -4096 ≤ X ∧ X ≤ 4096 ∧ -4096 ≤ Y ∧ Y ≤ 4096 ∧ Q ≤ 3 := by
 unfold clErr at h
 split at h
 ·
  assumption
 ·
  cases h
def ceErr (W H i : Int) : Int := if shErr W H = 0 then if hasB W H i = true then 0 else 7 else 1
def ceX (W H i : Int) : Int := if ceErr W H i = 0 then i / 4 % W else 0
def ceY (W H i : Int) : Int := if ceErr W H i = 0 then i / 4 / W else 0
def ceQ (W H i : Int) : Int := if ceErr W H i = 0 then i % 4 else 0
theorem shErr_or (W H : Int) : shErr W H = 0 ∨ shErr W H = 1 := by unfold shErr; split <;> simp
def kSheetsCell : Kon
 | [.agg [.int .i64 W, .int .i64 H], .int .i64 i] => some (True, .tup [.agg [.int .i64 (ceX W H i), .int .i64 (ceY W H i), .int .u8 (ceQ W H i)], .int .i64 (ceErr W H i)])
 | _ => none
def FSheetsCell : Fam := ⟨Int × Int × Int, fun (W, H, i) => [.agg [.int .i64 W, .int .i64 H], .int .i64 i], fun _ => True, fun (W, H, i) => .tup [.agg [.int .i64 (ceX W H i), .int .i64 (ceY W H i), .int .u8 (ceQ W H i)], .int .i64 (ceErr W H i)]⟩
set_option maxRecDepth 100000 in
theorem pSheetsCell : PS 140 kSheetsCell := by
 refine con [(18, kSheetsCheck), (196, kHas), (197, kCell)] (by simpa using ⟨pSheetsCheck, pHas, pCell⟩) FSheetsCell (fun _ _ => none) kSheetsCell ?_ ?_ Go.Proofs.Tryz.func140 (by kernel_rfl) (by kernel_rfl) (by kernel_rfl) ?_
 ·
  intro args pre s h hp
  unfold kSheetsCell at h
  split at h
  ·
   rename_i W H i; cases h; exact ⟨(W, H, i), by simp [FSheetsCell, le2L, SV.le2, SV.le1, le0L, SV.le0], trivial, rfl⟩
  ·
   cases h
 ·
  intro i; show 2 ≤ _; decide
 ·
  rintro ⟨W, H, i⟩ -
  repeat' (first | ((with_reducible refine And.intro (Ask.mk ?_) ?_); first | exact trivial | exact fun _ => trivial) | with_reducible refine And.intro ?_ ?_ | ((with_reducible refine Br.litT ?_ ?_); exact (Eq.refl true)) | ((with_reducible refine Br.litF ?_ ?_); exact (Eq.refl false)) | with_reducible refine Br.mk (fun h => ?_) (fun h => ?_) | with_reducible exact True.intro | with_reducible refine rowEq ?_ | with_reducible refine Ub.mk (fun hu => ?_) | ((with_reducible refine Late.mk ?_); exact rfl) | ((fail_if_success (with_reducible first | refine stopA ?_ | refine stopE ?_ | refine stopF ?_ | refine Exists.intro ?_ ?_ | intro _ | refine stopK ?_ | refine stopL ?_)); conv => whnf))
  all_goals (try with_reducible refine Ask.mk ?_)
  all_goals (try first | exact trivial | exact fun _ => trivial)
  all_goals (try dsimp only)
  all_goals (try simp only [ceX, ceY, ceQ, ceErr])
  all_goals (try simp at h)
  all_goals (first | (simp [h]; done) | skip)
  all_goals (try (rename_i h0; simp at h0; simp [h, h0]; done))
  ·
   rw [if_neg h]; exact (shErr_or W H).resolve_left h
  ·
   rename_i h0; simp at h0
   obtain ⟨h1, h2, h3, h4, h5, h6, h7⟩ := shErr_zero h0
   simp [hasB] at h
   omega
def ndx (Q e : Int) : Int := [tb [0, 1, 0, -1] Q.toNat, tb [0, 0, 0, 0] Q.toNat, tb [0, 0, 0, 0] Q.toNat].getD e.toNat 0
def ndy (Q e : Int) : Int := [tb [-1, 0, 1, 0] Q.toNat, tb [0, 0, 0, 0] Q.toNat, tb [0, 0, 0, 0] Q.toNat].getD e.toNat 0
def ndq (Q e : Int) : Int := [tb [2, 3, 0, 1] Q.toNat, tb [1, 0, 3, 2] Q.toNat, tb [3, 2, 1, 0] Q.toNat].getD e.toNat 0
def nbErr (X Y Q e : Int) : Int := if clErr X Y Q = 0 ∧ e ≤ 2 then (if clErr (ndx Q e + X) (ndy Q e + Y) (ndq Q e) = 0 then 0 else 3) else 1
def nbX (X Y Q e : Int) : Int := if nbErr X Y Q e = 0 then ndx Q e + X else 0
def nbY (X Y Q e : Int) : Int := if nbErr X Y Q e = 0 then ndy Q e + Y else 0
def nbQ (X Y Q e : Int) : Int := if nbErr X Y Q e = 0 then ndq Q e else 0
theorem nd_le {Q e : Int} (h1 : 0 ≤ Q) (h2 : Q ≤ 3) (h3 : 0 ≤ e) (h4 : e ≤ 2) : -1 ≤ ndx Q e ∧ ndx Q e ≤ 1 ∧ -1 ≤ ndy Q e ∧ ndy Q e ≤ 1 ∧ 0 ≤ ndq Q e ∧ ndq Q e ≤ 3 := by
 have : ∀ q : Nat, q < 4 → ∀ e : Nat, e < 3 → -1 ≤ ndx q e ∧ ndx q e ≤ 1 ∧ -1 ≤ ndy q e ∧ ndy q e ≤ 1 ∧ 0 ≤ ndq q e ∧ ndq q e ≤ 3 := by decide
 have := this Q.toNat (by omega) e.toNat (by omega)
 rwa [Int.toNat_of_nonneg h1, Int.toNat_of_nonneg h3] at this
theorem clErr_or (X Y Q : Int) : clErr X Y Q = 0 ∨ clErr X Y Q = 1 := by unfold clErr; split <;> simp
abbrev nCellsNeighbour : FuncId := 141
def kCellsNeighbour : Kon
 | [.agg [.int .i64 X, .int .i64 Y, .int .u8 Q], .int .u8 e] => some (0 ≤ Q ∧ 0 ≤ e, .tup [.agg [.int .i64 (nbX X Y Q e), .int .i64 (nbY X Y Q e), .int .u8 (nbQ X Y Q e)], .int .i64 (nbErr X Y Q e)])
 | _ => none
def FCellsNeighbour : Fam := ⟨Int × Int × Int × Int, fun (X, Y, Q, e) => [.agg [.int .i64 X, .int .i64 Y, .int .u8 Q], .int .u8 e], fun (X, Y, Q, e) => 0 ≤ Q ∧ 0 ≤ e,
 fun (X, Y, Q, e) => .tup [.agg [.int .i64 (nbX X Y Q e), .int .i64 (nbY X Y Q e), .int .u8 (nbQ X Y Q e)], .int .i64 (nbErr X Y Q e)]⟩
set_option maxRecDepth 100000 in
theorem pCellsNeighbour : PS 141 kCellsNeighbour := by
 refine con [(124, kCellsCheck)] (by simpa using pCellsCheck) FCellsNeighbour (fun _ _ => none) kCellsNeighbour ?_ ?_ Go.Proofs.Tryz.func141 (by kernel_rfl) (by kernel_rfl) (by kernel_rfl) ?_
 ·
  intro args pre s h hp
  unfold kCellsNeighbour at h
  split at h
  ·
   rename_i X Y Q e; cases h; exact ⟨(X, Y, Q, e), by simp [FCellsNeighbour, le2L, SV.le2, SV.le1, le0L, SV.le0], hp, rfl⟩
  ·
   cases h
 ·
  intro i; show 2 ≤ _; decide
 ·
  rintro ⟨X, Y, Q, e⟩ ⟨hQ, he⟩
  repeat' (first | ((with_reducible refine And.intro (Ask.mk ?_) ?_); first | exact trivial | exact fun _ => trivial) | with_reducible refine And.intro ?_ ?_ | ((with_reducible refine Br.litT ?_ ?_); exact (Eq.refl true)) | ((with_reducible refine Br.litF ?_ ?_); exact (Eq.refl false)) | with_reducible refine Br.mk (fun h => ?_) (fun h => ?_) | with_reducible exact True.intro | with_reducible refine rowEq ?_ | with_reducible refine Ub.mk (fun hu => ?_) | ((with_reducible refine Late.mk ?_); exact rfl) | ((fail_if_success (with_reducible first | refine stopA ?_ | refine stopE ?_ | refine stopF ?_ | refine Exists.intro ?_ ?_ | intro _ | refine stopK ?_ | refine stopL ?_)); conv => whnf))
  all_goals (try with_reducible refine Ask.mk ?_)
  all_goals (try first | exact trivial | exact fun _ => trivial)
  all_goals (try dsimp only)
  all_goals (try simp only [nbX, nbY, nbQ])
  all_goals (try (have e0 : nbErr X Y Q e = 1 := by simp [nbErr]; simp at h; omega); simp [e0]; done)
  ·
   simp at h; have := clErr_zero h.1; omega
  ·
   simp at h; omega
  all_goals (try (change inK .i64 (ndx Q e + X); simp at h; have := clErr_zero h.1; have n := nd_le hQ (by omega) he (by omega); simp only [inK]; omega))
  all_goals (try (change inK .i64 (ndy Q e + Y); simp at h; have := clErr_zero h.1; have n := nd_le hQ (by omega) he (by omega); simp only [inK]; omega))
  all_goals (rename_i h0; simp at h0)
  all_goals (change (!decide (clErr (ndx Q e + X) (ndy Q e + Y) (ndq Q e) = 0)) = _ at h; simp at h)
  all_goals (try (have e0 : nbErr X Y Q e = 3 := by simp [nbErr, h0, h]); simp [e0]; done)
  all_goals (have e0 : nbErr X Y Q e = 0 := by simp [nbErr, h0, h])
  all_goals (simp only [e0, if_true])
  ·
   rfl
  ·
   rfl
  ·
   rfl
def idErr (W H X Y Q : Int) : Int := if shErr W H = 0 then (if clErr X Y Q = 0 ∧ 0 ≤ X ∧ X < W ∧ 0 ≤ Y ∧ Y < H then 0 else 7) else 1
def idVal (W H X Y Q : Int) : Int := if idErr W H X Y Q = 0 then 4 * (Y * W + X) + Q else 0
def kId : Kon
 | [.agg [.int .i64 W, .int .i64 H], .agg [.int .i64 X, .int .i64 Y, .int .u8 Q]] => some (0 ≤ Q, .tup [.int .i64 (idVal W H X Y Q), .int .i64 (idErr W H X Y Q)])
 | _ => none
def FId : Fam := ⟨Int × Int × Int × Int × Int, fun (W, H, X, Y, Q) => [.agg [.int .i64 W, .int .i64 H], .agg [.int .i64 X, .int .i64 Y, .int .u8 Q]], fun (W, H, X, Y, Q) => 0 ≤ Q,
 fun (W, H, X, Y, Q) => .tup [.int .i64 (idVal W H X Y Q), .int .i64 (idErr W H X Y Q)]⟩
theorem id_le {W H X Y : Int} (h : shErr W H = 0) (h1 : 0 ≤ X) (h2 : X < W) (h3 : 0 ≤ Y) (h4 : Y < H) : 0 ≤ Y * W ∧ Y * W + X < W * H ∧ W * H ≤ 256 := by
 obtain ⟨a1, a2, a3, a4, a5, a6, a7⟩ := shErr_zero h
 have b : Y * W ≤ (H - 1) * W := Int.mul_le_mul_of_nonneg_right (by omega) (by omega)
 have c : (H - 1) * W = W * H - W := by rw [Int.sub_mul, Int.one_mul, Int.mul_comm]
 have d : 0 ≤ Y * W := Int.mul_nonneg h3 (by omega)
 omega
set_option maxRecDepth 100000 in
theorem pId : PS 142 kId := by
 refine con [(18, kSheetsCheck), (124, kCellsCheck)] (by simpa using ⟨pSheetsCheck, pCellsCheck⟩) FId (fun _ _ => none) kId ?_ ?_ Go.Proofs.Tryz.func142 (by kernel_rfl) (by kernel_rfl) (by kernel_rfl) ?_
 ·
  intro args pre s h hp
  unfold kId at h
  split at h
  ·
   rename_i W H X Y Q; cases h; exact ⟨(W, H, X, Y, Q), by simp [FId, le2L, SV.le2, SV.le1, le0L, SV.le0], hp, rfl⟩
  ·
   cases h
 ·
  intro i; show 2 ≤ _; decide
 ·
  rintro ⟨W, H, X, Y, Q⟩ hQ
  replace hQ : 0 ≤ Q := hQ
  repeat' (first | ((with_reducible refine And.intro (Ask.mk ?_) ?_); first | exact trivial | exact fun _ => trivial) | with_reducible refine And.intro ?_ ?_ | ((with_reducible refine Br.litT ?_ ?_); exact (Eq.refl true)) | ((with_reducible refine Br.litF ?_ ?_); exact (Eq.refl false)) | with_reducible refine Br.mk (fun h => ?_) (fun h => ?_) | with_reducible exact True.intro | with_reducible refine rowEq ?_ | with_reducible refine Ub.mk (fun hu => ?_) | ((with_reducible refine Late.mk ?_); exact rfl) | ((fail_if_success (with_reducible first | refine stopA ?_ | refine stopE ?_ | refine stopF ?_ | refine Exists.intro ?_ ?_ | intro _ | refine stopK ?_ | refine stopL ?_)); conv => whnf))
  all_goals (try with_reducible refine Ask.mk ?_)
  all_goals (try first | exact trivial | exact fun _ => trivial)
  all_goals (try dsimp only)
  all_goals (try (have e0 : idErr W H X Y Q = 1 := by (simp at h; simp [idErr, h])); rw [idVal, e0]; rfl)
  ·
   simp at h; rw [idErr, if_neg h]; exact (shErr_or W H).resolve_left h
  all_goals (try ((have e0 : idErr W H X Y Q = 7 := by (rename_i h0; simp at h0; simp at h; rw [idErr, if_pos h0, if_neg]; omega)); first | exact e0.symm | (rw [idVal, e0]; rfl)))
  all_goals (rename_i h0; simp at h0; simp at h)
  all_goals (have b := id_le (X := X) (Y := Y) h0 (by omega) (by omega) (by omega) (by omega); have c := clErr_zero h.1.1.1.1)
  all_goals (try (simp only [inK]; omega))
  all_goals (have e0 : idErr W H X Y Q = 0 := by rw [idErr, if_pos h0, if_pos]; omega)
  ·
   rw [idVal, e0]; rfl
  ·
   exact e0.symm
def neErr (W H i e : Int) : Int := if ceErr W H i = 0 then (if nbErr (ceX W H i) (ceY W H i) (ceQ W H i) e = 0 then idErr W H (nbX (ceX W H i) (ceY W H i) (ceQ W H i) e) (nbY (ceX W H i) (ceY W H i) (ceQ W H i) e) (nbQ (ceX W H i) (ceY W H i) (ceQ W H i) e) else 1) else ceErr W H i
def neVal (W H i e : Int) : Int := if ceErr W H i = 0 then (if nbErr (ceX W H i) (ceY W H i) (ceQ W H i) e = 0 then idVal W H (nbX (ceX W H i) (ceY W H i) (ceQ W H i) e) (nbY (ceX W H i) (ceY W H i) (ceQ W H i) e) (nbQ (ceX W H i) (ceY W H i) (ceQ W H i) e) else 0) else 0
theorem ceQ_le (W H i : Int) : 0 ≤ ceQ W H i ∧ ceQ W H i ≤ 3 := by
 unfold ceQ; split <;> omega
theorem nbQ_le {X Y Q e : Int} (h1 : 0 ≤ Q) (h3 : 0 ≤ e) : 0 ≤ nbQ X Y Q e ∧ nbQ X Y Q e ≤ 3 := by
 unfold nbQ
 split
 ·
  rename_i h
  unfold nbErr at h
  split at h
  ·
   rename_i hc
   have := clErr_zero hc.1
   have := nd_le h1 (by omega) h3 hc.2
   omega
  ·
   cases h
 ·
  omega
def kNeighbour : Kon
 | [.agg [.int .i64 W, .int .i64 H], .int .i64 i, .int .u8 e] => some (0 ≤ e, .tup [.int .i64 (neVal W H i e), .int .i64 (neErr W H i e)])
 | _ => none
def FNeighbour : Fam := ⟨Int × Int × Int × Int, fun (W, H, i, e) => [.agg [.int .i64 W, .int .i64 H], .int .i64 i, .int .u8 e], fun (W, H, i, e) => 0 ≤ e,
 fun (W, H, i, e) => .tup [.int .i64 (neVal W H i e), .int .i64 (neErr W H i e)]⟩
set_option maxRecDepth 100000 in
theorem pNeighbour : PS 68 kNeighbour := by
 refine con [(140, kSheetsCell), (141, kCellsNeighbour), (142, kId)] (by simpa using ⟨pSheetsCell, pCellsNeighbour, pId⟩) FNeighbour (fun _ _ => none) kNeighbour ?_ ?_ Go.Proofs.Tryz.func68 (by kernel_rfl) (by kernel_rfl) (by kernel_rfl) ?_
 ·
  intro args pre s h hp
  unfold kNeighbour at h
  split at h
  ·
   rename_i W H i e; cases h; exact ⟨(W, H, i, e), by simp [FNeighbour, le2L, SV.le2, SV.le1, le0L, SV.le0], hp, rfl⟩
  ·
   cases h
 ·
  intro i; show 3 ≤ _; decide
 ·
  rintro ⟨W, H, i, e⟩ he
  replace he : 0 ≤ e := he
  repeat' (first | ((with_reducible refine And.intro (Ask.mk ?_) ?_); first | exact trivial | exact fun _ => trivial) | with_reducible refine And.intro ?_ ?_ | ((with_reducible refine Br.litT ?_ ?_); exact (Eq.refl true)) | ((with_reducible refine Br.litF ?_ ?_); exact (Eq.refl false)) | with_reducible refine Br.mk (fun h => ?_) (fun h => ?_) | with_reducible exact True.intro | with_reducible refine rowEq ?_ | with_reducible refine Ub.mk (fun hu => ?_) | ((with_reducible refine Late.mk ?_); exact rfl) | ((fail_if_success (with_reducible first | refine stopA ?_ | refine stopE ?_ | refine stopF ?_ | refine Exists.intro ?_ ?_ | intro _ | refine stopK ?_ | refine stopL ?_)); conv => whnf))
  all_goals (try with_reducible refine Ask.mk ?_)
  all_goals (try first | exact trivial | exact fun _ => trivial)
  all_goals (try dsimp only)
  all_goals (try exact he)
  all_goals (try exact (ceQ_le W H i).1)
  all_goals (try exact ⟨(ceQ_le W H i).1, he⟩)
  all_goals (try exact (nbQ_le (ceQ_le W H i).1 he).1)
  all_goals (simp at h; (try rename_i h0; simp at h0); simp [neErr, neVal, *])
abbrev nMiddle : FuncId := 263
def kMiddle : Kon
 | [.agg [.int .i64 X, .int .i64 Y, .int .u8 Q]] => some (-5000 ≤ X ∧ X ≤ 5000 ∧ -5000 ≤ Y ∧ Y ≤ 5000, .agg [.int .i64 (2 * X + 1), .int .i64 (2 * Y + 1)])
 | _ => none
def FMiddle : Fam := ⟨Int × Int × Int, fun (X, Y, Q) => [.agg [.int .i64 X, .int .i64 Y, .int .u8 Q]], fun (X, Y, Q) => -5000 ≤ X ∧ X ≤ 5000 ∧ -5000 ≤ Y ∧ Y ≤ 5000, fun (X, Y, Q) => .agg [.int .i64 (2 * X + 1), .int .i64 (2 * Y + 1)]⟩
set_option maxHeartbeats 4000000 in
set_option maxRecDepth 100000 in
theorem pMiddle : PS nMiddle kMiddle := by
 refine con [] (by simp) FMiddle (fun _ _ => none) kMiddle ?_ ?_ Go.Proofs.Tryz.func263 (by kernel_rfl) (by kernel_rfl) (by kernel_rfl) ?_
 ·
  intro args pre s h hp
  unfold kMiddle at h
  split at h
  ·
   rename_i X Y Q; cases h; exact ⟨(X, Y, Q), by simp [FMiddle, le2L, SV.le2, SV.le1, le0L, SV.le0], hp, rfl⟩
  ·
   cases h
 ·
  intro i; show 1 ≤ _; decide
 ·
  rintro ⟨X, Y, Q⟩ hp
  replace hp : -5000 ≤ X ∧ X ≤ 5000 ∧ -5000 ≤ Y ∧ Y ≤ 5000 := hp
  repeat' (first | ((with_reducible refine And.intro (Ask.mk ?_) ?_); first | exact trivial | exact fun _ => trivial) | with_reducible refine And.intro ?_ ?_ | ((with_reducible refine Br.litT ?_ ?_); exact (Eq.refl true)) | ((with_reducible refine Br.litF ?_ ?_); exact (Eq.refl false)) | with_reducible refine Br.mk (fun h => ?_) (fun h => ?_) | with_reducible exact True.intro | with_reducible refine rowEq ?_ | with_reducible refine Ub.mk (fun hu => ?_) | ((with_reducible refine Late.mk ?_); exact rfl) | ((fail_if_success (with_reducible first | refine stopA ?_ | refine stopE ?_ | refine stopF ?_ | refine Exists.intro ?_ ?_ | intro _ | refine stopK ?_ | refine stopL ?_)); conv => whnf))
  all_goals (try with_reducible refine Ask.mk ?_)
  all_goals (try first | exact trivial | exact fun _ => trivial)
  all_goals (try dsimp only)
  all_goals (first | rfl | (simp only [inK]; omega))
def o1 (Q : Int) : Int := tb [0, 2, 2, 0] Q.toNat
def o2 (Q : Int) : Int := tb [2, 2, 0, 0] Q.toNat
def o3 (Q : Int) : Int := tb [0, 0, 2, 2] Q.toNat
theorem o_le {Q : Int} (h0 : 0 ≤ Q) (h1 : Q ≤ 3) : (0 ≤ o1 Q ∧ o1 Q ≤ 2) ∧ (0 ≤ o2 Q ∧ o2 Q ≤ 2) ∧ 0 ≤ o3 Q ∧ o3 Q ≤ 2 := by
 have : ∀ q : Nat, q < 4 → (0 ≤ o1 q ∧ o1 q ≤ 2) ∧ (0 ≤ o2 q ∧ o2 q ≤ 2) ∧ 0 ≤ o3 q ∧ o3 q ≤ 2 := by decide
 have := this Q.toNat (by omega)
 rwa [Int.toNat_of_nonneg h0] at this
def ICorn : Nat → Option Inv
 | 6 => some (.unroll 4)
 | _ => none
abbrev nCorners : FuncId := 186
def kCorners : Kon
 | [.agg [.int .i64 X, .int .i64 Y, .int .u8 Q]] => some (0 ≤ Q, .tup [.agg [.int .i64 (keep (clErr X Y Q) (1 + 2 * X)), .int .i64 (keep (clErr X Y Q) (1 + 2 * Y)), .int .i64 (keep (clErr X Y Q) (o1 Q + 2 * X)), .int .i64 (keep (clErr X Y Q) (o1 Q + 2 * Y)), .int .i64 (keep (clErr X Y Q) (o2 Q + 2 * X)), .int .i64 (keep (clErr X Y Q) (o3 Q + 2 * Y))], .int .i64 (clErr X Y Q)])
 | _ => none
def FCorners : Fam := ⟨Int × Int × Int, fun (X, Y, Q) => [.agg [.int .i64 X, .int .i64 Y, .int .u8 Q]], fun (X, Y, Q) => 0 ≤ Q, fun (X, Y, Q) => .tup [.agg [.int .i64 (keep (clErr X Y Q) (1 + 2 * X)), .int .i64 (keep (clErr X Y Q) (1 + 2 * Y)), .int .i64 (keep (clErr X Y Q) (o1 Q + 2 * X)), .int .i64 (keep (clErr X Y Q) (o1 Q + 2 * Y)), .int .i64 (keep (clErr X Y Q) (o2 Q + 2 * X)), .int .i64 (keep (clErr X Y Q) (o3 Q + 2 * Y))], .int .i64 (clErr X Y Q)]⟩
set_option maxHeartbeats 4000000 in
set_option maxRecDepth 100000 in
theorem pCorners : PS nCorners kCorners := by
 refine con [(nCellsCheck, kCellsCheck)] (by simpa using pCellsCheck) FCorners (fun _ => ICorn) kCorners ?_ ?_ Go.Proofs.Tryz.func186 (by kernel_rfl) (by kernel_rfl) (by kernel_rfl) ?_
 ·
  intro args pre s h hp
  unfold kCorners at h
  split at h
  ·
   rename_i X Y Q; cases h; exact ⟨(X, Y, Q), by simp [FCorners, le2L, SV.le2, SV.le1, le0L, SV.le0], hp, rfl⟩
  ·
   cases h
 ·
  intro i; show 1 ≤ _; decide
 ·
  rintro ⟨X, Y, Q⟩ hp
  replace hp : 0 ≤ Q := hp
  repeat' (first | ((with_reducible refine And.intro (Ask.mk ?_) ?_); first | exact trivial | exact fun _ => trivial) | with_reducible refine And.intro ?_ ?_ | ((with_reducible refine Br.litT ?_ ?_); exact (Eq.refl true)) | ((with_reducible refine Br.litF ?_ ?_); exact (Eq.refl false)) | with_reducible refine Br.mk (fun h => ?_) (fun h => ?_) | with_reducible exact True.intro | with_reducible refine rowEq ?_ | with_reducible refine Ub.mk (fun hu => ?_) | ((with_reducible refine Late.mk ?_); exact rfl) | ((fail_if_success (with_reducible first | refine stopA ?_ | refine stopE ?_ | refine stopF ?_ | refine Exists.intro ?_ ?_ | intro _ | refine stopK ?_ | refine stopL ?_)); conv => whnf))
  all_goals (try with_reducible refine Ask.mk ?_)
  all_goals (try first | exact trivial | exact fun _ => trivial)
  all_goals (try dsimp only)
  all_goals (have c0 := clErr_or X Y Q; have c1 := @clErr_zero X Y Q; have o := @o_le Q hp)
  all_goals (try simp only [inK])
  all_goals (first
   | (intros; decide)
   | (change keep _ _ = keep _ _; rfl)
   | (change _ = keep (clErr X Y Q) (o1 Q + 2 * X); simp [keep] at h ⊢; rw [if_pos h]; rfl)
   | (change _ = keep (clErr X Y Q) (o1 Q + 2 * Y); simp [keep] at h ⊢; rw [if_pos h]; rfl)
   | (change _ = keep (clErr X Y Q) (o2 Q + 2 * X); simp [keep] at h ⊢; rw [if_pos h]; rfl)
   | (change _ = keep (clErr X Y Q) (o3 Q + 2 * Y); simp [keep] at h ⊢; rw [if_pos h]; rfl)
   | (simp only [o1, o2, o3] at o; grind [keep]))
def lqK (Q : Int) : Int := tb [2, 1, 2, 1] Q.toNat
def lqB (Q : Int) : Int := tb [0, 1, 1, 0] Q.toNat
theorem lq_le {Q : Int} (h0 : 0 ≤ Q) (h1 : Q ≤ 3) : (lqK Q = 1 ∨ lqK Q = 2) ∧ 0 ≤ lqB Q ∧ lqB Q ≤ 1 := by
 have : ∀ q : Nat, q < 4 → (lqK q = 1 ∨ lqK q = 2) ∧ 0 ≤ lqB q ∧ lqB q ≤ 1 := by decide
 have := this Q.toNat (by omega)
 rwa [Int.toNat_of_nonneg h0] at this
def ciK (Q e : Int) : Int := if e = 1 then 3 else if e = 2 then 4 else lqK Q
def ciC (X Y Q e : Int) : Int := if e = 1 then X + Y + 1 else if e = 2 then Y - X else if lqK Q = 2 then Y + lqB Q else X + lqB Q
def ciErr (X Y Q e : Int) : Int := if clErr X Y Q = 0 ∧ e ≤ 2 then (if lnErr (ciK Q e) (ciC X Y Q e) = 0 then 0 else 3) else 1
abbrev nCellLine : FuncId := 70
def kCellLine : Kon
 | [.agg [.int .i64 X, .int .i64 Y, .int .u8 Q], .int .u8 e] => some (0 ≤ Q ∧ 0 ≤ e, .tup [.agg [.int .u8 (keep (ciErr X Y Q e) (ciK Q e)), .int .i64 (keep (ciErr X Y Q e) (ciC X Y Q e))], .int .i64 (ciErr X Y Q e)])
 | _ => none
def FCellLine : Fam := ⟨Int × Int × Int × Int, fun (X, Y, Q, e) => [.agg [.int .i64 X, .int .i64 Y, .int .u8 Q], .int .u8 e], fun (X, Y, Q, e) => 0 ≤ Q ∧ 0 ≤ e, fun (X, Y, Q, e) => .tup [.agg [.int .u8 (keep (ciErr X Y Q e) (ciK Q e)), .int .i64 (keep (ciErr X Y Q e) (ciC X Y Q e))], .int .i64 (ciErr X Y Q e)]⟩
set_option maxHeartbeats 4000000 in
set_option maxRecDepth 100000 in
theorem pCellLine : PS nCellLine kCellLine := by
 refine con [(nCellsCheck, kCellsCheck), (nLnCheck, kLnCheck)] (by simpa using ⟨pCellsCheck, pLnCheck⟩) FCellLine (fun _ _ => none) kCellLine ?_ ?_ Go.Proofs.Tryz.func70 (by kernel_rfl) (by kernel_rfl) (by kernel_rfl) ?_
 ·
  intro args pre s h hp
  unfold kCellLine at h
  split at h
  ·
   rename_i X Y Q e; cases h; exact ⟨(X, Y, Q, e), by simp [FCellLine, le2L, SV.le2, SV.le1, le0L, SV.le0], hp, rfl⟩
  ·
   cases h
 ·
  intro i; show 2 ≤ _; decide
 ·
  rintro ⟨X, Y, Q, e⟩ hp
  replace hp : 0 ≤ Q ∧ 0 ≤ e := hp
  repeat' (first | ((with_reducible refine And.intro (Ask.mk ?_) ?_); first | exact trivial | exact fun _ => trivial) | with_reducible refine And.intro ?_ ?_ | ((with_reducible refine Br.litT ?_ ?_); exact (Eq.refl true)) | ((with_reducible refine Br.litF ?_ ?_); exact (Eq.refl false)) | with_reducible refine Br.mk (fun h => ?_) (fun h => ?_) | with_reducible exact True.intro | with_reducible refine rowEq ?_ | with_reducible refine Ub.mk (fun hu => ?_) | ((with_reducible refine Late.mk ?_); exact rfl) | ((fail_if_success (with_reducible first | refine stopA ?_ | refine stopE ?_ | refine stopF ?_ | refine Exists.intro ?_ ?_ | intro _ | refine stopK ?_ | refine stopL ?_)); conv => whnf))
  all_goals (try with_reducible refine Ask.mk ?_)
  all_goals (try first | exact trivial | exact fun _ => trivial)
  all_goals (try dsimp only)
  all_goals (have c1 := @clErr_zero X Y Q; have o := @lq_le Q hp.1)
  all_goals (try simp only [inK])
  all_goals (simp only [lqK, lqB] at o)
  all_goals grind [ciErr, ciK, ciC, keep, lqK, lqB]
def sX (Q : Int) : Int := tb [0, 1, 0, -1] Q.toNat
def sY (Q : Int) : Int := tb [-1, 0, 1, 0] Q.toNat
def dX (t Q : Int) : Int := poX t 0 0 (sX Q) (sY Q)
def dY (t Q : Int) : Int := poY t 0 0 (sX Q) (sY Q)
def mvHit (t Q : Int) (i : Nat) : Bool := and (decide (tb [0, 1, 0, -1] i = dX t Q)) (and (decide (tb [-1, 0, 1, 0] i = dY t Q)) true)
def mvQn (t Q : Int) : Nat → Int
 | 0 => 0
 | i + 1 => bif mvHit t Q i then i else mvQn t Q i
def mvQ (t Q : Int) : Int := mvQn t Q 4
def half (p : Int) : Int := (p - p % 2).tdiv 2
def mvX (t x y X Y : Int) : Int := half (poX t x y (2 * X + 1) (2 * Y + 1))
def mvY (t x y X Y : Int) : Int := half (poY t x y (2 * X + 1) (2 * Y + 1))
theorem po_le {t x y a b : Int} (ht : 0 ≤ t) (h : mvErr t x y = 0) (a1 : -9000 ≤ a) (a2 : a ≤ 9000) (b1 : -9000 ≤ b) (b2 : b ≤ 9000) : -60000 ≤ poX t x y a b ∧ poX t x y a b ≤ 60000 ∧ -60000 ≤ poY t x y a b ∧ poY t x y a b ≤ 60000 := by
 have m := mvErr_zero h
 have r := turn_le (t := t) (x := a) (y := b) (B := 9000) ht m.1 (by omega) (by omega) (by omega) (by omega)
 unfold poX poY keep
 split <;> omega
theorem half_le {p : Int} (h1 : -60000 ≤ p) (h2 : p ≤ 60000) : -60000 ≤ half p ∧ half p ≤ 60000 := by
 unfold half
 have := Int.tdiv_eq_ediv (a := p - p % 2) (b := 2)
 rw [this]
 split <;> omega
def quartersAgg : SV := .agg (quartersRow 0 ++ quartersRow 1 ++ quartersRow 2 ++ quartersRow 3)
def IMoved : Int × Int × Int × Int × Int × Int → Nat → Option Inv
 | (t, x, y, X, Y, Q), 7 => some { β := Nat, ok := fun i => i ≤ 4, st := fun i => ⟨[⟨47, none, .int .i64 i⟩, ⟨46, none, quartersAgg⟩, ⟨7, none, .own 5 0⟩, ⟨6, none, .own 4 0⟩, ⟨4, none, .own 2 0⟩], [.cells 31 [.int .u8 t, .int .i64 0, .int .i64 0], .cells 37 [.int .i64 X, .int .i64 Y, .int .u8 Q], .cells 37 [.int .i64 0, .int .i64 0, .int .u8 0], .cells 243 [.int .i64 (poX t x y (2 * X + 1) (2 * Y + 1)), .int .i64 (poY t x y (2 * X + 1) (2 * Y + 1))], .cells 243 [.int .i64 (dX t Q), .int .i64 (dY t Q)], .cells 37 [.int .i64 (mvX t x y X Y), .int .i64 (mvY t x y X Y), .int .u8 (mvQn t Q i)]]⟩, μ := fun i => 4 - i }
 | _, _ => none
abbrev nMoved : FuncId := 189
def kMoved : Kon
 | [.agg [.int .u8 t, .int .i64 x, .int .i64 y], .agg [.int .i64 X, .int .i64 Y, .int .u8 Q]] => some (mvErr t x y = 0 ∧ clErr X Y Q = 0 ∧ 0 ≤ t ∧ 0 ≤ Q, .agg [.int .i64 (mvX t x y X Y), .int .i64 (mvY t x y X Y), .int .u8 (mvQ t Q)])
 | _ => none
def FMoved : Fam := ⟨Int × Int × Int × Int × Int × Int, fun (t, x, y, X, Y, Q) => [.agg [.int .u8 t, .int .i64 x, .int .i64 y], .agg [.int .i64 X, .int .i64 Y, .int .u8 Q]], fun (t, x, y, X, Y, Q) => mvErr t x y = 0 ∧ clErr X Y Q = 0 ∧ 0 ≤ t ∧ 0 ≤ Q, fun (t, x, y, X, Y, Q) => .agg [.int .i64 (mvX t x y X Y), .int .i64 (mvY t x y X Y), .int .u8 (mvQ t Q)]⟩
set_option maxHeartbeats 4000000 in
set_option maxRecDepth 100000 in
theorem pMoved : PS nMoved kMoved := by
 refine con [(nMiddle, kMiddle), (nMvPoint, kMvPoint)] (by simpa using ⟨pMiddle, pMvPoint⟩) FMoved IMoved kMoved ?_ ?_ Go.Proofs.Tryz.func189 (by kernel_rfl) (by kernel_rfl) (by kernel_rfl) ?_
 ·
  intro args pre s h hp
  unfold kMoved at h
  split at h
  ·
   rename_i t x y X Y Q; cases h; exact ⟨(t, x, y, X, Y, Q), by simp [FMoved, le2L, SV.le2, SV.le1, le0L, SV.le0], hp, rfl⟩
  ·
   cases h
 ·
  intro i; show 2 ≤ _; decide
 ·
  rintro ⟨t, x, y, X, Y, Q⟩ hp
  replace hp : mvErr t x y = 0 ∧ clErr X Y Q = 0 ∧ 0 ≤ t ∧ 0 ≤ Q := hp
  repeat' (first | ((with_reducible refine And.intro (Ask.mk ?_) ?_); first | exact trivial | exact fun _ => trivial) | with_reducible refine And.intro ?_ ?_ | ((with_reducible refine Br.litT ?_ ?_); exact (Eq.refl true)) | ((with_reducible refine Br.litF ?_ ?_); exact (Eq.refl false)) | with_reducible refine Br.mk (fun h => ?_) (fun h => ?_) | with_reducible exact True.intro | with_reducible refine rowEq ?_ | with_reducible refine Ub.mk (fun hu => ?_) | ((with_reducible refine Late.mk ?_); exact rfl) | ((fail_if_success (with_reducible first | refine stopA ?_ | refine stopE ?_ | refine stopF ?_ | refine Exists.intro ?_ ?_ | intro _ | refine stopK ?_ | refine stopL ?_)); conv => whnf))
  all_goals (try with_reducible refine Ask.mk ?_)
  all_goals (try first | exact trivial | exact fun _ => trivial)
  all_goals (try dsimp only)
  all_goals (have m := mvErr_zero hp.1; have c := clErr_zero hp.2.1; have r := po_le hp.2.2.1 hp.1 (a := 2 * X + 1) (b := 2 * Y + 1) (by omega) (by omega) (by omega) (by omega))
  all_goals (first
   | omega
   | (simp only [inK]; omega)
   | (have q := half_le r.1 r.2.1; simp only [half] at q; simp only [inK]; omega)
   | (have q := half_le r.2.2.1 r.2.2.2; simp only [half] at q; simp only [inK]; omega)
   | refine ⟨(0 : Nat), by decide, ?_, ?_⟩)
  ·
   repeat' (first | ((with_reducible refine And.intro (Ask.mk ?_) ?_); first | exact trivial | exact fun _ => trivial) | with_reducible refine And.intro ?_ ?_ | ((with_reducible refine Br.litT ?_ ?_); exact (Eq.refl true)) | ((with_reducible refine Br.litF ?_ ?_); exact (Eq.refl false)) | with_reducible refine Br.mk (fun h => ?_) (fun h => ?_) | with_reducible exact True.intro | with_reducible refine rowEq ?_ | with_reducible refine Ub.mk (fun hu => ?_) | ((with_reducible refine Late.mk ?_); exact rfl) | ((fail_if_success (with_reducible first | refine stopA ?_ | refine stopE ?_ | refine stopF ?_ | refine Exists.intro ?_ ?_ | intro _ | refine stopK ?_ | refine stopL ?_)); conv => whnf))
   all_goals (try with_reducible refine Ask.mk ?_)
   all_goals (try first | exact trivial | exact fun _ => trivial)
   all_goals (try dsimp only)
   all_goals first | rfl | exact fun _ _ => rfl | skip
  ·
   intro i hi
   replace hi : i ≤ 4 := hi
   have : i = 0 ∨ i = 1 ∨ i = 2 ∨ i = 3 ∨ i = 4 := by omega
   rcases this with rfl | rfl | rfl | rfl | rfl
   repeat' (first | ((with_reducible refine And.intro (Ask.mk ?_) ?_); first | exact trivial | exact fun _ => trivial) | with_reducible refine And.intro ?_ ?_ | ((with_reducible refine Br.litT ?_ ?_); exact (Eq.refl true)) | ((with_reducible refine Br.litF ?_ ?_); exact (Eq.refl false)) | with_reducible refine Br.mk (fun h => ?_) (fun h => ?_) | with_reducible exact True.intro | with_reducible refine rowEq ?_ | with_reducible refine Ub.mk (fun hu => ?_) | ((with_reducible refine Late.mk ?_); exact rfl) | ((fail_if_success (with_reducible first | refine stopA ?_ | refine stopE ?_ | refine stopF ?_ | refine Exists.intro ?_ ?_ | intro _ | refine stopK ?_ | refine stopL ?_)); conv => whnf))
   all_goals (try with_reducible refine Ask.mk ?_)
   all_goals (try first | exact trivial | exact fun _ => trivial)
   all_goals (try dsimp only)
   all_goals (first
    | decide
    | rfl
    | (simp only [inK]; omega)
    | (refine ⟨(1 : Nat), (by decide), (by decide), ?_⟩; (first | (have h : mvHit t Q 0 = true := h) | (have h : mvHit t Q 0 = false := h)))
    | (refine ⟨(2 : Nat), (by decide), (by decide), ?_⟩; (first | (have h : mvHit t Q 1 = true := h) | (have h : mvHit t Q 1 = false := h)))
    | (refine ⟨(3 : Nat), (by decide), (by decide), ?_⟩; (first | (have h : mvHit t Q 2 = true := h) | (have h : mvHit t Q 2 = false := h)))
    | (refine ⟨(4 : Nat), (by decide), (by decide), ?_⟩; (first | (have h : mvHit t Q 3 = true := h) | (have h : mvHit t Q 3 = false := h))))
   repeat' (first | ((with_reducible refine And.intro (Ask.mk ?_) ?_); first | exact trivial | exact fun _ => trivial) | with_reducible refine And.intro ?_ ?_ | ((with_reducible refine Br.litT ?_ ?_); exact (Eq.refl true)) | ((with_reducible refine Br.litF ?_ ?_); exact (Eq.refl false)) | with_reducible refine Br.mk (fun h => ?_) (fun h => ?_) | with_reducible exact True.intro | with_reducible refine rowEq ?_ | with_reducible refine Ub.mk (fun hu => ?_) | ((with_reducible refine Late.mk ?_); exact rfl) | ((fail_if_success (with_reducible first | refine stopA ?_ | refine stopE ?_ | refine stopF ?_ | refine Exists.intro ?_ ?_ | intro _ | refine stopK ?_ | refine stopL ?_)); conv => whnf))
   all_goals (try with_reducible refine Ask.mk ?_)
   all_goals (try first | exact trivial | exact fun _ => trivial)
   all_goals (try dsimp only)
   all_goals first | rfl | exact fun _ _ => rfl | omega | (simp only [mvQn, h, cond_true, cond_false]; done) | (simp only [mvQn]; rw [h]; rfl) | trace_state
def cnt (W H : Int) : Int := if shErr W H = 0 then 4 * W * H else 0
abbrev nCount : FuncId := 167
def kCount : Kon
 | [.agg [.int .i64 W, .int .i64 H]] => some (True, .int .i64 (cnt W H))
 | _ => none
def FCount : Fam := ⟨Int × Int, fun (W, H) => [.agg [.int .i64 W, .int .i64 H]], fun (W, H) => True, fun (W, H) => .int .i64 (cnt W H)⟩
set_option maxHeartbeats 4000000 in
set_option maxRecDepth 100000 in
theorem pCount : PS nCount kCount := by
 refine con [(nSheetsCheck, kSheetsCheck)] (by simpa using pSheetsCheck) FCount (fun _ _ => none) kCount ?_ ?_ Go.Proofs.Tryz.func167 (by kernel_rfl) (by kernel_rfl) (by kernel_rfl) ?_
 ·
  intro args pre s h hp
  unfold kCount at h
  split at h
  ·
   rename_i W H; cases h; exact ⟨(W, H), by simp [FCount, le2L, SV.le2, SV.le1, le0L, SV.le0], hp, rfl⟩
  ·
   cases h
 ·
  intro i; show 1 ≤ _; decide
 ·
  rintro ⟨W, H⟩ hp
  replace hp : True := hp
  repeat' (first | ((with_reducible refine And.intro (Ask.mk ?_) ?_); first | exact trivial | exact fun _ => trivial) | with_reducible refine And.intro ?_ ?_ | ((with_reducible refine Br.litT ?_ ?_); exact (Eq.refl true)) | ((with_reducible refine Br.litF ?_ ?_); exact (Eq.refl false)) | with_reducible refine Br.mk (fun h => ?_) (fun h => ?_) | with_reducible exact True.intro | with_reducible refine rowEq ?_ | with_reducible refine Ub.mk (fun hu => ?_) | ((with_reducible refine Late.mk ?_); exact rfl) | ((fail_if_success (with_reducible first | refine stopA ?_ | refine stopE ?_ | refine stopF ?_ | refine Exists.intro ?_ ?_ | intro _ | refine stopK ?_ | refine stopL ?_)); conv => whnf))
  all_goals (try with_reducible refine Ask.mk ?_)
  all_goals (try first | exact trivial | exact fun _ => trivial)
  all_goals (try dsimp only)
  all_goals (have z := @shErr_zero W H)
  all_goals (try simp only [inK])
  all_goals grind [cnt]
end Go.Proofs.YtmhhmaopnjfcgaaGreatDoor.V
namespace Go.Proofs.YtmhhmaopnjfcgaaGreatDoor.V.I
open Go
def cThen : List SV → Option SV
 | [.agg [.int .u8 t, .int .i64 x, .int .i64 y], .agg [.int .u8 u, .int .i64 z, .int .i64 w]] => match decide ((0 ≤ t ∧ t ≤ 255) ∧ 0 ≤ u ∧ u ≤ 255) with
  | true => some (.tup [.agg [.int .u8 (thT t x y u z w), .int .i64 (thX t x y u z w), .int .i64 (thY t x y u z w)], .int .i64 (thE t x y u z w)])
  | false => none
 | _ => none
theorem cThen_ok : ConOK Go.Proofs.Tryz.prog glob0 [⟨nThen, flatK cThen⟩] := conOK_of pThen (fun ys s h => by
 unfold cThen at h
 split at h
 ·
  split at h
  ·
   rename_i hd; cases h; exact ⟨_, rfl, of_decide_eq_true hd⟩
  ·
   cases h
 ·
  cases h)
def cMvPoint : List SV → Option SV
 | [.agg [.int .u8 t, .int .i64 x, .int .i64 y], .agg [.int .i64 a, .int .i64 b]] => match decide (0 ≤ t ∧ t ≤ 255) with
  | true => some (.tup [.agg [.int .i64 (poX t x y a b), .int .i64 (poY t x y a b)], .int .i64 (poE t x y a b)])
  | false => none
 | _ => none
theorem cMvPoint_ok : ConOK Go.Proofs.Tryz.prog glob0 [⟨nMvPoint, flatK cMvPoint⟩] := conOK_of pMvPoint (fun ys s h => by
 unfold cMvPoint at h
 split at h
 ·
  split at h
  ·
   rename_i hd; cases h; exact ⟨_, rfl, of_decide_eq_true hd⟩
  ·
   cases h
 ·
  cases h)
def cCorners : List SV → Option SV
 | [.agg [.int .i64 X, .int .i64 Y, .int .u8 Q]] => match decide (0 ≤ Q) with
  | true => some (.tup [.agg [.int .i64 (keep (clErr X Y Q) (1 + 2 * X)), .int .i64 (keep (clErr X Y Q) (1 + 2 * Y)), .int .i64 (keep (clErr X Y Q) (o1 Q + 2 * X)), .int .i64 (keep (clErr X Y Q) (o1 Q + 2 * Y)), .int .i64 (keep (clErr X Y Q) (o2 Q + 2 * X)), .int .i64 (keep (clErr X Y Q) (o3 Q + 2 * Y))], .int .i64 (clErr X Y Q)])
  | false => none
 | _ => none
theorem cCorners_ok : ConOK Go.Proofs.Tryz.prog glob0 [⟨nCorners, flatK cCorners⟩] := conOK_of pCorners (fun ys s h => by
 unfold cCorners at h
 split at h
 ·
  split at h
  ·
   rename_i hd; cases h; exact ⟨_, rfl, of_decide_eq_true hd⟩
  ·
   cases h
 ·
  cases h)
def cCellLine : List SV → Option SV
 | [.agg [.int .i64 X, .int .i64 Y, .int .u8 Q], .int .u8 e] => match decide (0 ≤ Q ∧ 0 ≤ e) with
  | true => some (.tup [.agg [.int .u8 (keep (ciErr X Y Q e) (ciK Q e)), .int .i64 (keep (ciErr X Y Q e) (ciC X Y Q e))], .int .i64 (ciErr X Y Q e)])
  | false => none
 | _ => none
theorem cCellLine_ok : ConOK Go.Proofs.Tryz.prog glob0 [⟨nCellLine, flatK cCellLine⟩] := conOK_of pCellLine (fun ys s h => by
 unfold cCellLine at h
 split at h
 ·
  split at h
  ·
   rename_i hd; cases h; exact ⟨_, rfl, of_decide_eq_true hd⟩
  ·
   cases h
 ·
  cases h)
def cCellsNeighbour : List SV → Option SV
 | [.agg [.int .i64 X, .int .i64 Y, .int .u8 Q], .int .u8 e] => match decide (0 ≤ Q ∧ 0 ≤ e) with
  | true => some (.tup [.agg [.int .i64 (nbX X Y Q e), .int .i64 (nbY X Y Q e), .int .u8 (nbQ X Y Q e)], .int .i64 (nbErr X Y Q e)])
  | false => none
 | _ => none
theorem cCellsNeighbour_ok : ConOK Go.Proofs.Tryz.prog glob0 [⟨nCellsNeighbour, flatK cCellsNeighbour⟩] := conOK_of pCellsNeighbour (fun ys s h => by
 unfold cCellsNeighbour at h
 split at h
 ·
  split at h
  ·
   rename_i hd; cases h; exact ⟨_, rfl, of_decide_eq_true hd⟩
  ·
   cases h
 ·
  cases h)
def cMoved : List SV → Option SV
 | [.agg [.int .u8 t, .int .i64 x, .int .i64 y], .agg [.int .i64 X, .int .i64 Y, .int .u8 Q]] => match decide (mvErr t x y = 0 ∧ clErr X Y Q = 0 ∧ 0 ≤ t ∧ 0 ≤ Q) with
  | true => some (.agg [.int .i64 (mvX t x y X Y), .int .i64 (mvY t x y X Y), .int .u8 (mvQ t Q)])
  | false => none
 | _ => none
theorem cMoved_ok : ConOK Go.Proofs.Tryz.prog glob0 [⟨nMoved, flatK cMoved⟩] := conOK_of pMoved (fun ys s h => by
 unfold cMoved at h
 split at h
 ·
  split at h
  ·
   rename_i hd; cases h; exact ⟨_, rfl, of_decide_eq_true hd⟩
  ·
   cases h
 ·
  cases h)
def c0 : List ConI := [⟨nThen, flatK cThen⟩] ++ [⟨nMvPoint, flatK cMvPoint⟩] ++ [⟨nCorners, flatK cCorners⟩] ++ [⟨nCellLine, flatK cCellLine⟩] ++ [⟨nCellsNeighbour, flatK cCellsNeighbour⟩] ++ [⟨nMoved, flatK cMoved⟩]
theorem c0_ok : ConOK Go.Proofs.Tryz.prog glob0 c0 := conOK_app (conOK_app (conOK_app (conOK_app (conOK_app (cThen_ok) cMvPoint_ok) cCorners_ok) cCellLine_ok) cCellsNeighbour_ok) cMoved_ok
end Go.Proofs.YtmhhmaopnjfcgaaGreatDoor.V.I
namespace Go.Proofs.YtmhhmaopnjfcgaaGreatDoor.V
open Go Go.RowKit
theorem Fr.putObj {X : Nat → Prop} {B : Nat} {w W : World} {l : Nat} {o : Obj} (h : Fr B X w W) (hl : B ≤ l) : Fr B X w (W.putObj l o) :=
 h.trans ⟨rfl, rfl, rfl, fun _ => Nat.le_refl _, by simp, fun i hi _ => World.putObj_heap_other (by omega)⟩
def SeqL {α : Type} (F : Fence) (n : Nat) (P : Program) (gf : Nat) (lb : Array Value) (encs : α → Array Value) (xs : List α) (A : World → Prop) : Prop :=
 ∀ (l : Nat) (J : List α → World → Prop) (W : World), (∀ s W, J s W → A W) → (∀ s W W', J s W → Fr W.heap.size (fun _ => False) W W' → J s W') → J [] W →
  (∀ pre x suf W1, xs = pre ++ x :: suf → J pre W1 → YieldAt F (n - 1) P l (encs x) W1 fun e W' => e = .returned (.bool true) ∧ J (pre ++ [x]) W') →
  CallsIn F n P gf (#[.func (.yield l) #[] #[]] ++ lb) W fun e W' => (∃ v, e = .returned v) ∧ J xs W'
def roundL {α : Type} (B : Nat) (I : List α → World → Prop) (xs : List α) (W : World) : Exit → Act → World → Prop
 | .normal, _, W' => KeepsFrom B W W' ∧ I xs W'
 | _, _, _ => False
theorem wpIn_range {F : Fence} {n : Nat} {P : Program} {α : Type} {g : Operand} {ps : Array Tmp} {assign body : Code} {Q : Exit → Act → World → Prop} {a : Act} {w : World}
  (hro : F.round = none) (h1 : 1 ≤ n) {gf : Nat} {lb : Array Value} (hg : a.eval g = .func (.func gf) #[] lb) (hFg : F.fn gf) (eg : ∀ args w, (callFunc gf args).run P w = .ok (.enter gf args) w)
  {encs : α → Array Value} {xs : List α} {A : World → Prop} (hseq : SeqL F (n - 1) P gf lb encs xs A) (hps : ∀ x, (encs x).size = ps.size)
  (I : List α → World → Prop) (hA : ∀ s W, I s W → A W) (hI : ∀ s W W', I s W → Fr W.heap.size (fun _ => False) W W' → I s W') (hIp : ∀ s W l o o', I s W → w.heap.size ≤ l → W.heap[l]? = some o → o.isCells = false → I s (W.putObj l o'))
  (h0 : I [] w) (Ax : α → Act → World → Prop) (hAx : ∀ x a' W l o o', Ax x a' W → w.heap.size ≤ l → W.heap[l]? = some o → o.isCells = false → Ax x a' (W.putObj l o'))
  (hassign : ∀ (l : Nat) (pre : List α) (x : α) (W : World) (K : Act → World → Prop), I pre W → (∀ a' W', KeepsFrom w.heap.size W W' → I pre W' → Ax x a' W' → K a' W') →
   assign.wpIn (F.inRound l) (n - 1 - 1) P (Exit.then K (fun _ _ _ => False)) { tmps := (ps.zip (encs x)).foldl (fun t (p, v) => t.setIfInBounds p v) a.tmps, defers := [] } W)
  (hbody : ∀ (l : Nat) (pre : List α) (x : α) (suf : List α) (a' : Act) (W : World), xs = pre ++ x :: suf → I pre W → Ax x a' W → body.wpIn (F.inRound l) (n - 1 - 1) P (roundL w.heap.size I (pre ++ [x]) W) a' W)
  (hdone : ∀ (D : Nat) (W : World), w.heap.size ≤ D → I xs W → W.heap[D]? = some (.deferred (some [])) → Q .normal { a with defers := { target := .collected D, args := #[] } :: a.defers } W) :
  (Code.rangeFunc g ps assign body).wpIn F n P Q a w := by
 refine wpIn_rangeFunc ?_
 intro fn hfn
 rw [hro]
 obtain ⟨rec, hrec⟩ : ∃ rec : LoopState → Option Code → Loop, rec = fun st pe => { state := st, pending := pe, fn, tmps := a.tmps, params := ps, assign, body, defers := w.heap.size } := ⟨_, rfl⟩
 obtain ⟨W1, hW1⟩ : ∃ W1, (w.alloc (.deferred (some []))).alloc (.loop (rec .ready none)) = W1 := ⟨_, rfl⟩
 have hL1 : W1.heap[w.heap.size + 1]? = some (.loop (rec .ready none)) := by
  rw [← hW1]; have := World.alloc_heap_new (w.alloc (.deferred (some []))) (.loop (rec .ready none)); rwa [World.size_alloc] at this
 have hK1 : W1.heap[w.heap.size]? = some (.deferred (some [])) := by
  rw [← hW1]; exact (Below.heap_alloc _ _ _ (by simp)).trans (World.alloc_heap_new w _)
 have hI1 : I [] W1 := by
  rw [← hW1]
  exact hI _ _ _ (hI _ _ _ h0 (Fr.alloc _ (Nat.le_refl _))) (Fr.alloc _ (Nat.le_refl _))
 refine ⟨w.heap.size + 1, [{ target := .collected w.heap.size, args := #[] }], W1, { target := .fn (.func gf) lb, args := #[.func (.yield (w.heap.size + 1)) #[] #[]] }, W1, gf,
  #[.func (.yield (w.heap.size + 1)) #[] #[]] ++ lb, W1, ?_, ?_, ?_, ?_, fun _ => h1, ?_⟩
 ·
  rw [← hW1, hrec]; exact run_enterLoop_outer _ _ _ _ _
 ·
  simp only [resolve, hg]
  simp [go_sem]
 ·
  intro f' hf'; simp [Target.leads] at hf'; subst hf'; exact hFg
 ·
  simp [invoke, go_sem, eg]
 ·
  have keep : ∀ {A B : World} {k : Nat} {o : Obj}, Fr A.heap.size (fun _ => False) A B → A.heap[k]? = some o → B.heap[k]? = some o := fun hf hk => (hf.block _ (Array.getElem?_eq_some_iff.1 hk).1 (fun h => h)).trans hk
  refine (hseq (w.heap.size + 1)
   (fun pre W => I pre W ∧ W.heap[w.heap.size + 1]? = some (.loop (rec .ready none)) ∧ W.heap[w.heap.size]? = some (.deferred (some [])))
   W1 (fun s W h => hA s W h.1) (fun s W W' h hf => ⟨hI s W W' h.1 hf, keep hf h.2.1, keep hf h.2.2⟩) ⟨hI1, hL1, hK1⟩ ?_).mono ?_
  ·
   rintro pre x suf W hxs ⟨hi, hl, hk⟩
   have hlt : w.heap.size + 1 < W.heap.size := (Array.getElem?_eq_some_iff.1 hl).1
   have hy := run_yield (P := P) (args := encs x) hl (by rw [hrec]; exact hps x)
   rw [hrec] at hy
   refine ⟨fn, _, assign, body, hy, roundIn_of_wpIn hfn (hassign _ pre x W _ hi fun a' W' hk' hi' hax => ?_)⟩
   replace hl : W'.heap[w.heap.size + 1]? = some (.loop (rec .ready none)) := hk'.same _ _ (by omega) hl rfl
   replace hk : W'.heap[w.heap.size]? = some (.deferred (some [])) := hk'.same _ _ (Nat.le_refl _) hk rfl
   replace hlt : w.heap.size + 1 < W'.heap.size := (Array.getElem?_eq_some_iff.1 hl).1
   clear hi hy hk'
   revert hi' hax hl hk hlt
   generalize W' = W
   intro hi hax hl hk hlt
   refine ⟨_, run_beginRound hl (by rw [hrec]), ?_⟩
   have hl2 : (W.putObj (w.heap.size + 1) (.loop { rec .ready none with state := .busy })).heap[w.heap.size + 1]? = some (.loop { rec .ready none with state := .busy }) := World.putObj_heap_same hlt
   have hk2 : (W.putObj (w.heap.size + 1) (.loop { rec .ready none with state := .busy })).heap[w.heap.size]? = some (.deferred (some [])) := (World.putObj_heap_other (by omega)).trans hk
   refine wpIn_mono (hbody _ pre x suf _ _ hxs (hIp _ _ _ _ _ hi (by omega) hl rfl) (hAx _ _ _ _ _ _ hax (by omega) hl rfl)) ?_
   rintro e a3 W3 hp
   cases e with
   | normal =>
    obtain ⟨hk3, hi3⟩ := hp
    have hl3 := hk3.same _ _ (by omega) hl2 rfl
    have hr := run_endRound (P := P) none hl3
    have hl4 : (W3.putObj (w.heap.size + 1) (.loop (rec .ready none))).heap[w.heap.size + 1]? = some (.loop (rec .ready none)) := World.putObj_heap_same (Array.getElem?_eq_some_iff.1 hl3).1
    have hk4 : (W3.putObj (w.heap.size + 1) (.loop (rec .ready none))).heap[w.heap.size]? = some (.deferred (some [])) := (World.putObj_heap_other (by omega)).trans (hk3.same _ _ (Nat.le_refl _) hk2 rfl)
    refine ⟨.bool true, W3.putObj (w.heap.size + 1) (.loop (rec .ready none)), ?_, rfl, hIp _ _ _ _ _ hi3 (by omega) hl3 rfl, hl4, hk4⟩
    rw [hrec] at hr ⊢
    exact hr
   | ret => exact hp.elim
   | exit id => exact hp.elim
   | goto t => exact hp.elim
   | panic chain => exact hp.elim
   | outgrown => exact hp.elim
  ·
   rintro e W2 ⟨⟨v, rfl⟩, hi, hl, hk⟩
   have hst : (rec .ready none).state ≠ .busy := by rw [hrec]; simp
   have hpd : (rec .ready none).pending = none := by rw [hrec]
   have hr := run_endLoop (P := P) hl hst
   rw [hpd] at hr
   exact ⟨none, _, hr, hdone w.heap.size _ (Nat.le_refl _) (hIp _ _ _ _ _ hi (by omega) hl rfl) ((World.putObj_heap_other (by omega)).trans hk)⟩
end Go.Proofs.YtmhhmaopnjfcgaaGreatDoor.V
namespace Go.Proofs.YtmhhmaopnjfcgaaGreatDoor.V
open Go Go.RowKit Go.Shelf
def isU (W H : Int) (m : Nat) : Bool := decide (neErr W H (m / 3 : Nat) (m % 3 : Nat) = 0) && decide (((m / 3 : Nat) : Int) < neVal W H (m / 3 : Nat) (m % 3 : Nat))
def unU (m : Nat) : Int × Int := (((m / 3 : Nat) : Int), ((m % 3 : Nat) : Int))
def unitsTo (W H : Int) (m : Nat) : List (Int × Int) := ((List.range m).filter (isU W H)).map unU
def unitsL (W H : Int) : List (Int × Int) := unitsTo W H (3 * (cnt W H).toNat)
theorem unitsTo_yes {W H : Int} {m : Nat} (h : isU W H m = true) : unitsTo W H (m + 1) = unitsTo W H m ++ [unU m] := by
 simp [unitsTo, List.range_succ, h]
theorem unitsTo_no {W H : Int} {m : Nat} (h : isU W H m = false) : unitsTo W H (m + 1) = unitsTo W H m := by
 simp [unitsTo, List.range_succ, h]
theorem unitsTo_split {W H : Int} {m : Nat} (h : isU W H m = true) (hm : m < 3 * (cnt W H).toNat) : ∃ suf, unitsL W H = unitsTo W H m ++ unU m :: suf := by
 have h1 : List.range (m + 1) <+: List.range (3 * (cnt W H).toNat) := by
  refine ⟨(List.range (3 * (cnt W H).toNat - (m + 1))).map (m + 1 + ·), ?_⟩
  rw [← List.range_add]; congr 1; omega
 obtain ⟨t, ht⟩ := (h1.filter (isU W H)).map unU
 replace ht : unitsTo W H (m + 1) ++ t = unitsL W H := ht
 rw [unitsTo_yes h] at ht
 exact ⟨t, by rw [← ht]; simp⟩
theorem isU_at {W H : Int} (i k : Nat) (hk : k < 3) : isU W H (3 * i + k) = (decide (neErr W H i k = 0) && decide ((i : Int) < neVal W H i k)) ∧ unU (3 * i + k) = ((i : Int), (k : Int)) := by
 have h1 : (3 * i + k) / 3 = i := by omega
 have h2 : (3 * i + k) % 3 = k := by omega
 simp [isU, unU, h1, h2]
def globOK (w : World) : Prop := ∀ g t, glob0 g = some t → t.pure = true ∧ D w (fun _ => False) Nobody t (.pointer (some ⟨g, 0, none⟩))
theorem globOK.grow {w w' : World} (h : globOK w) (hf : Fr w.heap.size (fun _ => False) w w') : globOK w' := fun g t e => ⟨(h g t e).1, (h g t e).2.keep ⟨hf.size, fun b hb _ => hf.block b hb (fun h => h), fun _ _ h => h, fun _ _ h => h⟩⟩
def sheetBox (bx : Nat) (W H : Int) (w : World) : Prop := w.heap[bx]? = some (.cells #[.int .i64 W, .int .i64 H] 26 (0, 0))
theorem sheetBox.c0 {bx : Nat} {W H : Int} {w : World} (h : sheetBox bx W H w) : w.cell? ⟨bx, 0, none⟩ = some (.int .i64 W) := by simp [World.cell?, show w.heap[bx]? = _ from h]
theorem sheetBox.c1 {bx : Nat} {W H : Int} {w : World} (h : sheetBox bx W H w) : w.cell? ⟨bx, 1, none⟩ = some (.int .i64 H) := by simp [World.cell?, show w.heap[bx]? = _ from h]
theorem dl_sheet {w : World} {W H : Int} : DL w (fun _ => False) Nobody [.agg [.int .i64 W, .int .i64 H]] [.agg #[.int .i64 W, .int .i64 H]] := by
 refine ⟨rfl, fun i s v hs hv => ?_⟩
 match i, hs, hv with
 | 0, hs, hv =>
  cases hs; cases hv
  refine .agg [.int .i64 W, .int .i64 H] rfl (fun i s v hs hv => ?_)
  match i, hs, hv with
  | 0, hs, hv => cases hs; cases hv; exact .int
  | 1, hs, hv => cases hs; cases hv; exact .int
theorem count_calls {n : Nat} {W H : Int} {w : World} (hg : globOK w) : CallsIn Fence.wide n Go.Proofs.Tryz.prog 167 #[.agg #[.int .i64 W, .int .i64 H]] w fun e w' => e = .returned (.int .i64 (cnt W H)) ∧ Fr w.heap.size (fun _ => False) w w' := by
 refine callsIn_wide.2 ((pCount.2 (fun _ => False) w [.agg [.int .i64 W, .int .i64 H]] [.agg #[.int .i64 W, .int .i64 H]] True _ (fun b h => h.elim) hg dl_sheet rfl trivial).mono ?_)
 rintro e w' ⟨v, rfl, hv, hfr⟩
 cases hv
 exact ⟨rfl, hfr⟩
theorem neighbour_calls {n : Nat} {W H i e : Int} {w : World} (hg : globOK w) (he : 0 ≤ e) : CallsIn Fence.wide n Go.Proofs.Tryz.prog 68 #[.agg #[.int .i64 W, .int .i64 H], .int .i64 i, .int .u8 e] w fun en w' => en = .returned (.tuple #[.int .i64 (neVal W H i e), .int .i64 (neErr W H i e)]) ∧ Fr w.heap.size (fun _ => False) w w' := by
 refine callsIn_wide.2 ((pNeighbour.2 (fun _ => False) w [.agg [.int .i64 W, .int .i64 H], .int .i64 i, .int .u8 e] [.agg #[.int .i64 W, .int .i64 H], .int .i64 i, .int .u8 e] (0 ≤ e) _ (fun b h => h.elim) hg ?_ rfl he).mono ?_)
 ·
  refine ⟨rfl, fun j s v hs hv => ?_⟩
  match j, hs, hv with
  | 0, hs, hv => exact dl_sheet.2 0 s v hs hv
  | 1, hs, hv => cases hs; cases hv; exact .int
  | 2, hs, hv => cases hs; cases hv; exact .int
 ·
  rintro en w' ⟨v, rfl, hv, hfr⟩
  cases hv with
  | tup vs hl hd =>
   match vs, hl with
   | [a, b], _ =>
    have h0 := hd 0 _ a rfl rfl
    have h1 := hd 1 _ b rfl rfl
    cases h0; cases h1
    exact ⟨rfl, hfr⟩
attribute [local go_sem] Oper.semAt_some
def intN : Value → Nat
 | .int _ z => z.toNat
 | _ => 0
theorem intN_int (k : IntKind) (z : Int) : intN (.int k z) = z.toNat := rfl
set_option maxRecDepth 100000 in
set_option maxHeartbeats 4000000 in
theorem all_seq {n bx : Nat} {W H : Int} (hsh : shErr W H = 0) : SeqL Fence.wide n Go.Proofs.Tryz.prog 193 #[.pointer (some ⟨bx, 0, none⟩)] (fun u : Int × Int => #[.agg #[.int .i64 u.1, .int .u8 u.2]]) (unitsL W H) (fun w => globOK w ∧ sheetBox bx W H w) := by
  intro l J w hJA hJF h0 hY
  have z := shErr_zero hsh
  have hcn : cnt W H = 4 * W * H := by unfold cnt; rw [if_pos hsh]
  refine callsIn_of_wp Go.Proofs.Tryz.func193 rfl trivial ?_ rfl
  simp only [Go.Proofs.Tryz.ntmps193, List.size_toArray, List.length_cons, List.length_nil, Nat.reduceAdd, Nat.reduceSub, Array.replicate_succ, Array.replicate_zero, List.push_toArray, List.append_toArray, List.nil_append, List.cons_append]
  have hA0 := hJA _ _ h0
  have c0 := hA0.2.c0
  have c1 := hA0.2.c1
  gi_wp2_with (refine ⟨trivial, fun h => (by cases h), ?_⟩; refine (count_calls hA0.1).mono ?_; rintro e w1 ⟨rfl, hf1⟩)
  have hJ1 := hJF _ _ _ h0 hf1
  gi_loopw [9] (fun v wr => ∃ i : Nat, v = .int .i64 i ∧ i ≤ (cnt W H).toNat ∧ J (unitsTo W H (3 * i)) wr) (fun v _ => (cnt W H).toNat - intN v)
  case atStart =>
    exact ⟨0, rfl, Nat.zero_le _, hJ1⟩
  case round =>
    obtain ⟨i, rfl, hi, hJi⟩ := hrel
    have hI := hJA _ _ hJi
    gi_wp2
    · have hdi : decide ((i : Int) < 4 * (W * H)) = true := decide_eq_true (by assumption)
      rw [hdi]
      gi_loopw [12] (fun v wr => ∃ k : Nat, v = .int .u8 k ∧ k ≤ 3 ∧ J (unitsTo W H (3 * i + k)) wr) (fun v _ => 3 - intN v)
      case atStart =>
        exact ⟨0, rfl, by omega, hJi⟩
      case round =>
        obtain ⟨k, rfl, hk, hJk⟩ := hrel
        have hK := hJA _ _ hJk
        have d0 := hK.2.c0
        have d1 := hK.2.c1
        rcases Nat.lt_or_ge k 3 with hk3 | hk3
        · obtain ⟨hat, hun⟩ := isU_at (W := W) (H := H) i k hk3
          have hki : inK .u8 k := by simp only [inK]; omega
          cases hu : isU W H (3 * i + k) with
          | true =>
            obtain ⟨suf, hs⟩ := unitsTo_split hu (by omega)
            have hyes := unitsTo_yes hu
            rw [hun] at hs hyes
            rw [hat] at hu
            simp only [Bool.and_eq_true, decide_eq_true_eq] at hu
            obtain ⟨hu1, hu2⟩ := hu
            gi_wp2_with (refine ⟨trivial, fun h => (by cases h), ?_⟩; refine (neighbour_calls hK.1 (Int.natCast_nonneg k)).mono ?_; rintro e w2 ⟨rfl, hf2⟩; have hJ2 := hJF _ _ _ hJk hf2; obtain ⟨fn, tmps, assign, body, hy, hR⟩ := hY _ _ suf w2 hs hJ2; dsimp only at hy)
            all_goals (try omega)
            refine ⟨fun h => (by cases h), hR.mono ?_⟩
            rintro e W3 ⟨rfl, hJ3⟩
            rw [← hyes] at hJ3
            gi_wp2
            refine ⟨?_, ?_⟩
            · exact ⟨k + 1, by simp, by omega, hJ3⟩
            · show 3 - intN (.int .u8 (k + 1)) < 3 - intN (.int .u8 k)
              simp only [intN_int]; omega
          | false =>
            have hno := unitsTo_no hu
            rw [hat] at hu
            gi_wp2_with (refine ⟨trivial, fun h => (by cases h), ?_⟩; refine (neighbour_calls hK.1 (Int.natCast_nonneg k)).mono ?_; rintro e w2 ⟨rfl, hf2⟩; have hJ2 := hJF _ _ _ hJk hf2)
            all_goals (try omega)
            all_goals (try (exfalso; simp_all; done))
            all_goals (refine ⟨fun _ h => (by cases h), ?_⟩)
            all_goals gi_wp2
            all_goals rw [← hno] at hJ2
            all_goals refine ⟨?_, ?_⟩
            all_goals first
              | (show 3 - intN (.int .u8 (k + 1)) < 3 - intN (.int .u8 k)
                 simp only [intN_int]; omega)
              | exact ⟨k + 1, by simp, by omega, hJ2⟩
        · gi_wp2
          all_goals (try omega)
          have ek : 3 * (i + 1) = 3 * i + k := by omega
          refine ⟨⟨i + 1, by simp, by omega, by rw [ek]; exact hJk⟩, ?_⟩
          show (cnt W H).toNat - intN (.int .i64 (i + 1)) < (cnt W H).toNat - intN (.int .i64 i)
          rw [intN_int, intN_int]
          omega
    · go_end0
      refine ⟨⟨_, rfl⟩, ?_⟩
      have e : i = (cnt W H).toNat := by omega
      rw [e] at hJi
      exact hJi
end Go.Proofs.YtmhhmaopnjfcgaaGreatDoor.V
namespace Go.Proofs.YtmhhmaopnjfcgaaGreatDoor.V
open Go Go.RowKit
def oneRow (w : World) (v : Value) : Prop := ∀ g k cap cur T z, v = .slice (some ⟨g, 0, none⟩) k cap → w.heap[g]? = some (.cells cur T z) → ∀ u ∈ cur.toList, u.oneCell' = true
theorem zero_one {z : Array Value} (h : ∀ u ∈ z.toList, u.oneCell' = true) (n : Nat) : ∀ u ∈ (Builtin.zeroCells z n).toList, u.oneCell' = true := by
 intro u hu
 unfold Builtin.zeroCells at hu
 rw [Array.toList_map, List.mem_map] at hu
 obtain ⟨i, hi, rfl⟩ := hu
 have hi' : i < n * z.size := by simpa using hi
 have hpos : 0 < z.size := by
  rcases Nat.eq_zero_or_pos z.size with e | e
  ·
   rw [e] at hi'; simp at hi'
  ·
   exact e
 have hlt := Nat.mod_lt i hpos
 rw [getElem!_pos z _ hlt]
 exact h _ (by simp)
theorem run_append_one {P : Program} (w : World) (base : Nat) (t ty e : TypeId) (i : TypeInfo) (z : Value) (size bytes : Nat) (ht : P.underlying t = some (.slice e)) (hi : P.info? e = some i) (hz : i.zero = some z)
  (hsize : i.size = size) (hby : i.bytes = bytes) (hzs : z.cells.size = size) (hsz : 0 < size) (hz1 : ∀ u ∈ z.cells.toList, u.oneCell' = true)
  (v : Value) (n : Nat) (xs : List Value) (hown : w.ownsRow base e size v n xs) (hone : oneRow w v)
  (a : Addr) (m c : Nat) (news : List Value) (hl : news.length = m * size) (hnews : ∀ j u, news[j]? = some u → w.cell? (a.add j) = some u) (h1 : ∀ u ∈ news, u.oneCell' = true)
  (h63 : n + m ≤ maxLen) (hbytes : (n + m) * bytes ≤ 140737488355328) (hbase : base ≤ w.heap.size) (hm : 0 < m) :
  ∃ v' w', (Builtin.append_ #[t, t] ty #[v, .slice (some a) m c]).run P w = .ok v' w' ∧ w'.ownsRow base e size v' (n + m) (xs ++ news) ∧ w.grownBy w' v.ownBlock ∧ oneRow w' v' := by
 obtain ⟨v', w', hr, ha, hb, -⟩ := run_append_own (P := P) w base t ty e i z size bytes ht hi hz hsize hby hzs hsz v n xs hown a m c news hl hnews h1 h63 hbytes hbase
 refine ⟨v', w', hr, ha, hb, ?_⟩
 subst hsize
 subst hby
 have hsmall : n + m ≤ 9223372036854775807 := by simp only [maxLen] at h63; omega
 rcases hown.2 with ⟨rfl, rfl⟩ | ⟨g, cap, cur, rfl, hbg, hg, hnc, hcm, hcs, htake⟩
 ·
  have hr2 := run_append_nil (P := P) w t ty e i z ht hi hz a m c news hl hnews hm (by omega) (by have hb := hbytes; simp only [Nat.zero_add] at hb; omega)
  rw [hr2] at hr
  cases hr
  intro g k cap cur T zz hv hg u hu
  cases hv
  have hq := Option.some.inj ((heap_alloc_new w.drew _).symm.trans hg)
  cases hq
  simp only [Array.toList_append, List.mem_append] at hu
  rcases hu with hu | hu
  ·
   exact h1 u (by simpa using hu)
  ·
   exact zero_one hz1 _ u hu
 ·
  have hcur := hone g n cap cur e (0, 0) rfl hg
  have hxs : ∀ u ∈ xs, u.oneCell' = true := fun u hu => hcur u (by rw [← htake] at hu; exact List.mem_of_mem_take hu)
  by_cases hroom : n + m ≤ cap
  ·
   have hfit : n * i.size + news.length ≤ cur.size := by rw [hl, hcs, ← Nat.add_mul]; exact Nat.mul_le_mul_right _ hroom
   have hr2 := run_append_room (P := P) w t ty e i ht hi g n cap cur hg a m c news hl hnews h1 hroom hfit
   rw [hr2] at hr
   cases hr
   intro g' k cap' cur' T zz hv hg' u hu
   cases hv
   rw [setRow_heap w g cur _ e _ hg] at hg'
   cases hg'
   simp only [List.append_assoc, List.mem_append] at hu
   rcases hu with hu | hu | hu
   ·
    exact hcur u (List.mem_of_mem_take hu)
   ·
    exact h1 u hu
   ·
    exact hcur u (List.mem_of_mem_drop hu)
  ·
   have holds : ∀ j u, xs[j]? = some u → w.cell? ((⟨g, 0, none⟩ : Addr).add j) = some u := hown.cells (g := g) rfl
   have hr2 := run_append_grow (P := P) w t ty e i z ht hi hz ⟨g, 0, none⟩ n cap xs hown.1 holds a m c news hl hnews (by omega) (by omega) (growslice_fits (by omega) hbytes)
   rw [hr2] at hr
   cases hr
   intro g' k cap' cur' T zz hv hg' u hu
   cases hv
   have hq := Option.some.inj ((heap_alloc_new w.drew _).symm.trans hg')
   cases hq
   simp only [Array.toList_append, List.mem_append] at hu
   rcases hu with (hu | hu) | hu
   ·
    exact hxs u (by simpa using hu)
   ·
    exact h1 u (by simpa using hu)
   ·
    exact zero_one hz1 _ u hu
theorem wpListIn_append_one {F : Fence} {n : Nat} {P : Program} (w : World) {ops : Array Oper} {rest : List Oper} {o : Oper} {a : Act} {Q : Exit → Act → World → Prop}
  (hg : o.guard = none) (s x : Operand) (t : TypeId) (hop : o.op = Op.call { callee := Callee.builtin Builtin.append, args := #[s, x], argTypes := #[t, t] })
  (base : Nat) (e : TypeId) (i : TypeInfo) (z : Value) (size bytes : Nat) (h1 : P.underlying t = some (.slice e)) (h2 : P.info? e = some i) (h3 : i.zero = some z) (h4 : i.size = size) (h5 : i.bytes = bytes) (h6 : z.cells.size = size) (h7 : 0 < size) (hz1 : ∀ u ∈ z.cells.toList, u.oneCell' = true)
  (v : Value) (k : Nat) (xs : List Value) (hs : a.eval s = v) (hown : w.ownsRow base e size v k xs) (hone : oneRow w v) (ad : Addr) (m c : Nat) (news : List Value) (hx : a.eval x = .slice (some ad) m c) (hn : news.length = m * size)
  (hc : ∀ j u, news[j]? = some u → w.cell? (ad.add j) = some u) (h1c : ∀ u ∈ news, u.oneCell' = true) (b1 : k + m ≤ maxLen) (b2 : (k + m) * bytes ≤ 140737488355328) (b3 : base ≤ w.heap.size) (hm : 0 < m)
  (hK : ∀ v' w', w'.ownsRow base e size v' (k + m) (xs ++ news) → w.grownBy w' v.ownBlock → oneRow w' v' → wpListIn F n P ops Q rest (a.put o.dst v') w') :
  wpListIn F n P ops Q (o :: rest) a w := by
 refine wpListIn_plain hg fun K hK' => ?_
 obtain ⟨v', w', hrun, r1, r2, r3⟩ := run_append_one (P := P) w base t o.type e i z size bytes h1 h2 h3 h4 h5 h6 h7 hz1 v k xs hown hone ad m c news hn hc h1c b1 b2 b3 hm
 unfold Oper.wpIn
 refine ⟨?_, ?_⟩
 ·
  simp [Oper.about, hop, resolve, Target.leads, Sem.run_pure]
 ·
  rw [Oper.semAt_plain F _ _ (by rw [hop]; intro c hc'; cases hc')]
  simp [execOp, hop, resolve, invoke, builtin, hs, hx, hrun, Result.andThen]
  exact hK' _ _ (hK v' w' r1 r2 r3)
end Go.Proofs.YtmhhmaopnjfcgaaGreatDoor.V
