/-
  The seat's functions in the evaluator (second part).
-/
import Derived.Test.YticmcblmkphiaaaGreatDoorTabA
set_option linter.unusedVariables false
set_option linter.unusedSimpArgs false
set_option linter.unusedSectionVars false
set_option maxRecDepth 100000
namespace Dv
noncomputable section
def c269 : Run :=
  (rSeq (rO (oBox rd0) w1 <|
  rO (oAlloc (mkCells [(.oth 1 0 [] []), (.oth 1 0 [] []), (.oth 1 0 [] []), (.int 3 (.ofNat 0)), (.int 3 (.ofNat 0))])) w2 <|
  rSkip) (rSeq (rO (oLoadN 5 rd1) wL0 <|
  rO (oAlloc (mkCells [(.oth 1 0 [] []), (.oth 1 0 [] []), (.oth 1 0 [] []), (.int 3 (.ofNat 0)), (.int 3 (.ofNat 0))])) w3 <|
  rO (oStoreN 5 rd3 lo0) wN <|
  rSkip) (rSeq (rO (oFieldAddr 0 rd1) wL0 <|
  rO (oLoad1 lo0) wL0 <|
  rO (oLenV lo0) wL0 <|
  rO (oMkSlice [(.str 0 0), (.oth 1 0 [] [])] lo0 lo0) wL0 <|
  rO (oFieldAddr 0 rd3) wL0 <|
  rO (oStore1 lo0 lo1) wN <|
  rSkip) (rSeq (rO (oFieldAddr 0 rd3) wL0 <|
  rO (oLoad1 lo0) wL0 <|
  rO (oFieldAddr 0 rd1) wL0 <|
  rO (oLoad1 lo0) wL0 <|
  rO (oCopy 2 lo2 lo0) wL0 <|
  rSkip) (rSeq (rSeq (rO (oFieldAddr 0 rd1) wL0 <|
  rO (oLoad1 lo0) w24 <|
  rO (oLenV rd24) w25 <|
  rO (oMove (rdC (.int 3 (.ofNat 0)))) w26 <|
  rSkip) (rBlock 0 (rLoop (rSeq (rO (oI ibLss rd26 rd25) w27 <|
  rSkip) (rSeq (rCond rd27 rSkip (rExit 0)) (rSeq (rBlock 1 (rSeq (rO (oMove rd26) wL0 <|
  rO (oIndexAddrV 2 rd24 rd26) wL0 <|
  rO (oLoadN 2 lo0) wL0 <|
  rO (oAlloc (mkCells [(.str 0 0), (.oth 1 0 [] [])])) w5 <|
  rO (oMove lo2) w4 <|
  rO (oStoreN 2 rd5 lo0) wN <|
  rSkip) (rO (oFieldAddr 0 rd3) wL0 <|
  rO (oLoad1 lo0) wL0 <|
  rO (oMove rd4) wL0 <|
  rO (oFieldAddr 1 rd5) wL0 <|
  rO (oLoad1 lo0) wL0 <|
  rCall 40 [lo0] wL0 <|
  rChk (oLoad1 lo5) lo4 <|
  rO (oIndexAddrV 2 lo4 lo3) wL0 <|
  rO (oFieldAddr 1 lo0) wL0 <|
  rO (oStore1 lo0 lo2) wN <|
  rSkip))) (rO (oI ibAdd rd26 (rdC (.int 3 (.ofNat 1)))) wL0 <|
  rO (oMove lo0) w26 <|
  rSkip))))))) (rSeq (rO (oFieldAddr 1 rd1) wL0 <|
  rO (oLoad1 lo0) wL0 <|
  rO (oFieldAddr 2 rd1) wL0 <|
  rO (oLoad1 lo0) wL0 <|
  rCall 188 [lo2] wL0 <|
  rChk (oLoad1 lo2) lo1 <|
  rO (oFieldAddr 1 rd3) wL0 <|
  rCall 189 [lo2] wL0 <|
  rO (oStore1 lo1 lo2) wN <|
  rO (oFieldAddr 2 rd3) wL0 <|
  rO (oStore1 lo0 lo1) wN <|
  rSkip) (rSeq (rSeq (rO (oFieldAddr 1 rd1) wL0 <|
  rO (oLoad1 lo0) w49 <|
  rO (oLenV rd49) w50 <|
  rO (oMove (rdC (.int 3 (.ofNat 0)))) w51 <|
  rSkip) (rBlock 2 (rLoop (rSeq (rO (oI ibLss rd51 rd50) w52 <|
  rSkip) (rSeq (rCond rd52 rSkip (rExit 2)) (rSeq (rBlock 3 (rSeq (rO (oMove rd51) wL0 <|
  rO (oIndexAddrV 5 rd49 rd51) wL0 <|
  rO (oLoadN 5 lo0) wL0 <|
  rO (oAlloc (mkCells [(.int 3 (.ofNat 0)), (.int 3 (.ofNat 0)), (.oth 1 0 [] []), (.bool false), (.int 3 (.ofNat 0))])) w7 <|
  rO (oMove lo2) w6 <|
  rO (oStoreN 5 rd7 lo0) wN <|
  rSkip) (rSeq (rO (oFieldAddr 1 rd3) wL0 <|
  rO (oLoad1 lo0) wL0 <|
  rO (oMove rd6) wL0 <|
  rO (oIndexAddrV 5 lo1 lo0) wL0 <|
  rO (oFieldAddr 2 lo0) wL0 <|
  rO (oStore1 lo0 (rdC (.oth 1 0 [] []))) wN <|
  rSkip) (rSeq (rO (oFieldAddr 2 rd7) wL0 <|
  rO (oLoad1 lo0) w62 <|
  rO (oLenV rd62) w63 <|
  rO (oMove (rdC (.int 3 (.ofNat 0)))) w64 <|
  rSkip) (rBlock 4 (rLoop (rSeq (rO (oI ibLss rd64 rd63) w65 <|
  rSkip) (rSeq (rCond rd65 rSkip (rExit 4)) (rSeq (rBlock 5 (rSeq (rO (oIndexAddrV 2 rd62 rd64) wL0 <|
  rO (oLoadN 2 lo0) wL0 <|
  rO (oAlloc (mkCells [(.oth 1 0 [] []), (.int 3 (.ofNat 0))])) w9 <|
  rO (oStoreN 2 rd9 lo0) wN <|
  rSkip) (rO (oFieldAddr 1 rd3) wL0 <|
  rO (oLoad1 lo0) wL0 <|
  rO (oMove rd6) wL0 <|
  rO (oFieldAddr 1 rd3) wL0 <|
  rO (oLoad1 lo0) wL0 <|
  rO (oMove rd6) wL0 <|
  rO (oIndexAddrV 5 lo1 lo0) wL0 <|
  rO (oFieldAddr 2 lo0) wL0 <|
  rO (oLoad1 lo0) wL0 <|
  rO (oLoadN 2 rd9) wL0 <|
  rCall 321 [lo0] wL0 <|
  rChk (oLoad1 lo3) lo2 <|
  rChk (oLoad1 lo7) lo6 <|
  rChk (oLoad1 lo10) lo9 <|
  rO (oBuildSlice 1 [(.oth 1 0 [] []), (.int 3 (.ofNat 0))] [(0, 2, lo0)]) wL0 <|
  rO (oAppend 2 lo3 lo0) wL0 <|
  rChk (oLoad1 lo12) lo11 <|
  rO (oIndexAddrV 5 lo11 lo10) wL0 <|
  rO (oFieldAddr 2 lo0) wL0 <|
  rO (oStore1 lo0 lo2) wN <|
  rSkip))) (rO (oI ibAdd rd64 (rdC (.int 3 (.ofNat 1)))) wL0 <|
  rO (oMove lo0) w64 <|
  rSkip)))))))))) (rO (oI ibAdd rd51 (rdC (.int 3 (.ofNat 1)))) wL0 <|
  rO (oMove lo0) w51 <|
  rSkip))))))) (rSeq (rSeq (rO (oFieldAddr 2 rd1) wL0 <|
  rO (oLoad1 lo0) w86 <|
  rO (oLenV rd86) w87 <|
  rO (oMove (rdC (.int 3 (.ofNat 0)))) w88 <|
  rSkip) (rBlock 6 (rLoop (rSeq (rO (oI ibLss rd88 rd87) w89 <|
  rSkip) (rSeq (rCond rd89 rSkip (rExit 6)) (rSeq (rBlock 7 (rSeq (rO (oMove rd88) wL0 <|
  rO (oIndexAddrV 3 rd86 rd88) wL0 <|
  rO (oLoadN 3 lo0) wL0 <|
  rO (oAlloc (mkCells [(.int 3 (.ofNat 0)), (.int 3 (.ofNat 0)), (.oth 1 0 [] [])])) w11 <|
  rO (oMove lo2) w10 <|
  rO (oStoreN 3 rd11 lo0) wN <|
  rSkip) (rO (oFieldAddr 2 rd3) wL0 <|
  rO (oLoad1 lo0) wL0 <|
  rO (oMove rd10) wL0 <|
  rO (oFieldAddr 2 rd11) wL0 <|
  rO (oLoad1 lo0) wL0 <|
  rCall 40 [lo0] wL0 <|
  rChk (oLoad1 lo5) lo4 <|
  rO (oIndexAddrV 3 lo4 lo3) wL0 <|
  rO (oFieldAddr 2 lo0) wL0 <|
  rO (oStore1 lo0 lo2) wN <|
  rSkip))) (rO (oI ibAdd rd88 (rdC (.int 3 (.ofNat 1)))) wL0 <|
  rO (oMove lo0) w88 <|
  rSkip))))))) (rSeq (rO (oLoadN 5 rd3) wL0 <|
  rO (oStoreN 5 rd2 lo0) wN <|
  rSkip) rRet)))))))))
def d269 : DF := .mk [w0] (resN 5 rd2 resNil) c269
def c270 : Run :=
  (rSeq (rO (oBox rd2) w5 <|
  rO (oMove (rdC (.bool false))) w6 <|
  rO (oMove (rdC (.int 3 (.ofNat 0)))) w7 <|
  rSkip) (rSeq (rO (oMove rd0) wL0 <|
  rO (oNilCheck lo0) wL0 <|
  rO (oFieldAddr 0 lo0) wL0 <|
  rO (oFieldAddr 1 lo0) wL0 <|
  rO (oLoad1 lo0) wL0 <|
  rO (oMove rd1) wL0 <|
  rO (oNilCheck lo0) wL0 <|
  rO (oFieldAddr 0 lo0) wL0 <|
  rO (oLoad1 lo0) wL0 <|
  rO (oIndexAddrV 5 lo4 lo0) wL0 <|
  rO (oLoadN 5 lo0) wL0 <|
  rO (oAlloc (mkCells [(.int 3 (.ofNat 0)), (.int 3 (.ofNat 0)), (.oth 1 0 [] []), (.bool false), (.int 3 (.ofNat 0))])) w8 <|
  rO (oStoreN 5 rd8 lo0) wN <|
  rSkip) (rSeq (rO (oMove (rdC (.int 3 (.ofNat 0)))) w9 <|
  rO (oMove (rdC (.int 3 (.ofNat 0)))) w10 <|
  rSkip) (rSeq (rSeq (rO (oFieldAddr 0 rd5) wL0 <|
  rO (oLoad1 lo0) w29 <|
  rSkip) (rBlock 0 (rSeq (rO (oI ibEql rd29 (rdC (.int 3 (.ofNat 1)))) wL0 <|
  rO (oMove lo0) w45 <|
  rSkip) (rCond rd45 (rO (oMove rd0) wL0 <|
  rO (oFieldAddr 2 rd8) wL0 <|
  rO (oLoad1 lo0) wL0 <|
  rO (oFieldAddr 2 rd5) wL0 <|
  rO (oLoad1 lo0) wL0 <|
  rO (oIndexAddrV 2 lo2 lo0) wL0 <|
  rO (oLoadN 2 lo0) wL0 <|
  rCall 322 [lo6, lo0] wL0 <|
  rO (oMove lo0) wL0 <|
  rO (oExtract 0 lo0) wL0 <|
  rO (oExtract 1 lo1) wL0 <|
  rO (oMove lo1) w9 <|
  rO (oMove lo0) w10 <|
  rSkip) (rSeq (rO (oI ibEql rd29 (rdC (.int 3 (.ofNat 2)))) wL0 <|
  rO (oMove lo0) w58 <|
  rSkip) (rCond rd58 (rSeq (rO (oFieldAddr 2 rd8) wL0 <|
  rO (oLoad1 lo0) wL0 <|
  rO (oIndexAddrV 2 lo0 (rdC (.int 3 (.ofNat 0)))) wL0 <|
  rO (oLoadN 2 lo0) wL0 <|
  rO (oFieldAddr 2 rd5) wL0 <|
  rO (oLoad1 lo0) wL0 <|
  rO (oBuildSlice 1 [(.int 3 (.ofNat 0))] [(0, 1, lo0)]) wL0 <|
  rO (oAlloc (mkCells [(.oth 1 0 [] []), (.int 3 (.ofNat 0))])) w11 <|
  rCall 323 [lo3, lo0] wL0 <|
  rChkA (fun _ => [(.oth 1 0 [] []), (.int 3 (.ofNat 0))]) rd11 <|
  rO (oMove lo0) wL0 <|
  rO (oExtract 0 lo0) wL0 <|
  rO (oExtract 1 lo1) wL0 <|
  rO (oStoreN 2 rd11 lo1) wN <|
  rO (oMove lo0) w12 <|
  rSkip) (rSeq (rSeq (rO (oMove rd12) wL0 <|
  rO (oI ibNeq lo0 (rdC (.int 3 (.ofNat 0)))) w72 <|
  rSkip) (rCond rd72 (rSeq (rO (oMove (rdC (.bool false))) w6 <|
  rO (oMove (rdC (.int 3 (.ofNat 14)))) w7 <|
  rSkip) rRet) rSkip)) (rO (oMove rd0) wL0 <|
  rO (oLoadN 2 rd11) wL0 <|
  rCall 322 [lo1, lo0] wL0 <|
  rO (oMove lo0) wL0 <|
  rO (oExtract 0 lo0) wL0 <|
  rO (oExtract 1 lo1) wL0 <|
  rO (oMove lo1) w9 <|
  rO (oMove lo0) w10 <|
  rSkip))) (rSeq (rO (oI ibEql rd29 (rdC (.int 3 (.ofNat 3)))) wL0 <|
  rO (oMove lo0) w79 <|
  rSkip) (rCond rd79 (rSeq (rO (oFieldAddr 1 rd5) wL0 <|
  rO (oLoad1 lo0) wL0 <|
  rO (oBuild [(.str 0 0), (.oth 1 0 [] [])] [(0, 1, lo0)]) wL0 <|
  rO (oAlloc (mkCells [(.str 0 0), (.oth 1 0 [] [])])) w13 <|
  rO (oStoreN 2 rd13 lo0) wN <|
  rSkip) (rSeq (rSeq (rO (oFieldAddr 3 rd5) wL0 <|
  rO (oLoad1 lo0) w85 <|
  rO (oLenV rd85) w86 <|
  rO (oMove (rdC (.int 3 (.ofNat 0)))) w87 <|
  rSkip) (rBlock 1 (rLoop (rSeq (rO (oI ibLss rd87 rd86) w88 <|
  rSkip) (rSeq (rCond rd88 rSkip (rExit 1)) (rSeq (rBlock 2 (rSeq (rO (oIndexAddrV 1 rd85 rd87) wL0 <|
  rO (oLoad1 lo0) wL0 <|
  rO (oMove lo0) w15 <|
  rSkip) (rO (oFieldAddr 1 rd13) wL0 <|
  rO (oLoad1 lo0) wL0 <|
  rO (oMove rd1) wL0 <|
  rO (oNilCheck lo0) wL0 <|
  rO (oFieldAddr 2 lo0) wL0 <|
  rO (oLoad1 lo0) wL0 <|
  rO (oMove rd15) wL0 <|
  rO (oIndexAddrV 1 lo1 lo0) wL0 <|
  rO (oLoad1 lo0) wL0 <|
  rO (oBuildSlice 1 [(.int 3 (.ofNat 0))] [(0, 1, lo0)]) wL0 <|
  rO (oAppend 1 lo8 lo0) wL0 <|
  rO (oFieldAddr 1 rd13) wL0 <|
  rO (oStore1 lo0 lo1) wN <|
  rSkip))) (rO (oI ibAdd rd87 (rdC (.int 3 (.ofNat 1)))) wL0 <|
  rO (oMove lo0) w87 <|
  rSkip))))))) (rO (oMove rd0) wL0 <|
  rO (oLoadN 2 rd13) wL0 <|
  rO (oBuildSlice 1 [(.str 0 0), (.oth 1 0 [] [])] [(0, 2, lo0)]) wL0 <|
  rCall 324 [lo2, lo0] wL0 <|
  rO (oMove lo0) wL0 <|
  rO (oExtract 0 lo0) wL0 <|
  rO (oExtract 1 lo1) wL0 <|
  rO (oMove lo1) w9 <|
  rO (oMove lo0) w10 <|
  rSkip))) (rSeq (rO (oMove (rdC (.bool false))) w16 <|
  rSkip) (rSeq (rO (oMove rd0) wL0 <|
  rO (oMove rd1) wL0 <|
  rO (oLoadN 4 rd5) wL0 <|
  rCall 325 [lo2, lo1, lo0] wL0 <|
  rO (oMove lo0) wL0 <|
  rO (oExtract 0 lo0) wL0 <|
  rO (oExtract 1 lo1) wL0 <|
  rO (oExtract 2 lo2) wL0 <|
  rO (oMove lo2) w9 <|
  rO (oMove lo1) w16 <|
  rO (oMove lo0) w10 <|
  rSkip) (rSeq (rO (oMove rd16) wL0 <|
  rO (oMove lo0) wL0 <|
  rG lo0 false wL0 (rO (oMove rd10) wL0) <|
  rG lo1 false wL0 (rO (oI ibNeq lo0 (rdC (.int 3 (.ofNat 0)))) wL0) <|
  rO (oPick lo2 (rdC (.bool true)) lo0) w42 <|
  rSkip) (rCond rd42 (rSeq (rO (oMove rd16) wL0 <|
  rO (oMove rd10) wL0 <|
  rO (oMove lo1) w6 <|
  rO (oMove lo0) w7 <|
  rSkip) rRet) rSkip)))))))))))) (rSeq (rSeq (rO (oMove rd10) wL0 <|
  rO (oI ibEql lo0 (rdC (.int 3 (.ofNat 0)))) w112 <|
  rSkip) (rCond rd112 (rO (oMove rd1) wL0 <|
  rO (oMove rd1) wL0 <|
  rO (oNilCheck lo0) wL0 <|
  rO (oFieldAddr 2 lo0) wL0 <|
  rO (oLoad1 lo0) wL0 <|
  rO (oMove rd9) wL0 <|
  rO (oBuildSlice 1 [(.int 3 (.ofNat 0))] [(0, 1, lo0)]) wL0 <|
  rO (oAppend 1 lo2 lo0) wL0 <|
  rO (oNilCheck lo7) wL0 <|
  rO (oFieldAddr 2 lo0) wL0 <|
  rO (oStore1 lo0 lo2) wN <|
  rSkip) rSkip)) (rSeq (rO (oMove rd10) wL0 <|
  rO (oMove (rdC (.bool false))) w6 <|
  rO (oMove lo0) w7 <|
  rSkip) rRet))))))
def d270 : DF := .mk [w0, w1, w2] (resT rd6 (resT rd7 resNil)) c270
def c271 : Run :=
  (rSeq (rO (oMove (rdC (.int 3 (.ofNat 0)))) w4 <|
  rSkip) (rSeq (rSeq (rO (oMove rd1) w5 <|
  rSkip) (rBlock 0 (rSeq (rSeq (rO (oI ibEql rd5 (rdC (.int 3 (.ofNat 8)))) wL0 <|
  rO (oMove lo0) w6 <|
  rSkip) (rCond rd6 rSkip (rSeq (rO (oI ibEql rd5 (rdC (.int 3 (.ofNat 9)))) wL0 <|
  rO (oMove lo0) w6 <|
  rSkip) (rCond rd6 rSkip (rSeq (rO (oI ibEql rd5 (rdC (.int 3 (.ofNat 10)))) wL0 <|
  rO (oMove lo0) w6 <|
  rSkip) (rCond rd6 rSkip (rO (oI ibEql rd5 (rdC (.int 3 (.ofNat 2)))) wL0 <|
  rO (oMove lo0) w6 <|
  rSkip))))))) (rCond rd6 (rSeq (rO (oMove rd0) wL0 <|
  rO (oMove rd1) wL0 <|
  rO (oNilCheck lo1) wL0 <|
  rO (oFieldAddr 0 lo0) wL0 <|
  rO (oFieldAddr 4 lo0) wL0 <|
  rO (oStore1 lo0 lo3) wN <|
  rSkip) (rSeq (rO (oMove (rdC (.int 3 (.ofNat 0)))) w4 <|
  rSkip) rRet)) rSkip)))) (rSeq (rO (oMove rd1) wL0 <|
  rO (oMove lo0) w4 <|
  rSkip) rRet)))
def d271 : DF := .mk [w0, w1] (resT rd4 resNil) c271
def c272 : Run :=
  (rSeq (rO (oBox rd1) w4 <|
  rO (oMove (rdC (.int 3 (.ofNat 0)))) w6 <|
  rSkip) (rSeq (rO (oMove rd2) wL0 <|
  rO (oMove lo0) w7 <|
  rSkip) (rSeq (rSeq (rO (oMove rd0) wL0 <|
  rO (oNilCheck lo0) wL0 <|
  rO (oFieldAddr 0 lo0) wL0 <|
  rO (oFieldAddr 1 lo0) wL0 <|
  rO (oLoad1 lo0) wL0 <|
  rO (oLenV lo0) wL0 <|
  rO (oI ibAdd lo0 (rdC (.int 3 (.ofNat 1)))) w15 <|
  rO (oMove (rdC (.int 3 (.ofNat 0)))) w16 <|
  rSkip) (rBlock 0 (rLoop (rSeq (rO (oI ibLss rd16 rd15) w17 <|
  rSkip) (rSeq (rCond rd17 rSkip (rExit 0)) (rSeq (rBlock 1 (rSeq (rSeq (rO (oMove rd7) wL0 <|
  rO (oI ibGeq lo0 (rdC (.int 3 (.ofNat 0)))) w19 <|
  rSkip) (rCond rd19 (rExit 0) rSkip)) (rSeq (rSeq (rO (oMove rd7) wL0 <|
  rO (oNeg lo0) wL0 <|
  rO (oI ibSub lo0 (rdC (.int 3 (.ofNat 1)))) wL0 <|
  rO (oFieldAddr 0 rd4) wL0 <|
  rO (oLoad1 lo0) wL0 <|
  rO (oI ibEql lo2 lo0) w25 <|
  rSkip) (rCond rd25 (rSeq (rO (oMove (rdC (.int 3 (.ofNat 8)))) w6 <|
  rSkip) rRet) rSkip)) (rSeq (rSeq (rO (oMove rd0) wL0 <|
  rO (oNilCheck lo0) wL0 <|
  rO (oFieldAddr 0 lo0) wL0 <|
  rO (oFieldAddr 1 lo0) wL0 <|
  rO (oLoad1 lo0) wL0 <|
  rO (oMove rd7) wL0 <|
  rO (oNeg lo0) wL0 <|
  rO (oI ibSub lo0 (rdC (.int 3 (.ofNat 1)))) wL0 <|
  rO (oIndexAddrV 5 lo3 lo0) wL0 <|
  rO (oFieldAddr 3 lo0) wL0 <|
  rO (oLoad1 lo0) wL0 <|
  rO (oNot lo0) w37 <|
  rSkip) (rCond rd37 (rExit 0) rSkip)) (rO (oMove rd0) wL0 <|
  rO (oNilCheck lo0) wL0 <|
  rO (oFieldAddr 0 lo0) wL0 <|
  rO (oFieldAddr 1 lo0) wL0 <|
  rO (oLoad1 lo0) wL0 <|
  rO (oMove rd7) wL0 <|
  rO (oNeg lo0) wL0 <|
  rO (oI ibSub lo0 (rdC (.int 3 (.ofNat 1)))) wL0 <|
  rO (oIndexAddrV 5 lo3 lo0) wL0 <|
  rO (oFieldAddr 4 lo0) wL0 <|
  rO (oLoad1 lo0) wL0 <|
  rO (oMove lo0) w7 <|
  rSkip))))) (rO (oI ibAdd rd16 (rdC (.int 3 (.ofNat 1)))) wL0 <|
  rO (oMove lo0) w16 <|
  rSkip))))))) (rSeq (rO (oMove rd0) wL0 <|
  rO (oNilCheck lo0) wL0 <|
  rO (oFieldAddr 0 lo0) wL0 <|
  rO (oFieldAddr 1 lo0) wL0 <|
  rO (oLoad1 lo0) wL0 <|
  rO (oFieldAddr 0 rd4) wL0 <|
  rO (oLoad1 lo0) wL0 <|
  rO (oMove rd0) wL0 <|
  rO (oNilCheck lo0) wL0 <|
  rO (oFieldAddr 0 lo0) wL0 <|
  rO (oFieldAddr 1 lo0) wL0 <|
  rO (oLoad1 lo0) wL0 <|
  rO (oFieldAddr 0 rd4) wL0 <|
  rO (oLoad1 lo0) wL0 <|
  rO (oMove rd2) wL0 <|
  rO (oIndexAddrV 5 lo10 lo8) wL0 <|
  rO (oFieldAddr 4 lo0) wL0 <|
  rO (oStore1 lo0 lo2) wN <|
  rChk (oLoad1 lo4) lo3 <|
  rO (oIndexAddrV 5 lo5 lo3) wL0 <|
  rO (oFieldAddr 3 lo0) wL0 <|
  rO (oStore1 lo0 (rdC (.bool true))) wN <|
  rSkip) (rSeq (rO (oMove rd0) wL0 <|
  rO (oMove rd0) wL0 <|
  rO (oNilCheck lo0) wL0 <|
  rO (oFieldAddr 0 lo0) wL0 <|
  rO (oFieldAddr 2 lo0) wL0 <|
  rO (oLoad1 lo0) wL0 <|
  rO (oMove rd0) wL0 <|
  rO (oNilCheck lo0) wL0 <|
  rO (oFieldAddr 0 lo0) wL0 <|
  rO (oFieldAddr 2 lo0) wL0 <|
  rO (oLoad1 lo0) wL0 <|
  rO (oLenV lo0) wL0 <|
  rO (oI ibSub lo0 (rdC (.int 3 (.ofNat 1)))) wL0 <|
  rO (oSliceV 3 lo7 none (some lo0)) wL0 <|
  rO (oNilCheck lo13) wL0 <|
  rO (oFieldAddr 0 lo0) wL0 <|
  rO (oFieldAddr 2 lo0) wL0 <|
  rO (oStore1 lo0 lo3) wN <|
  rSkip) (rSeq (rO (oMove (rdC (.int 3 (.ofNat 0)))) w6 <|
  rSkip) rRet))))))
def d272 : DF := .mk [w0, w1, w2] (resT rd6 resNil) c272
def c282 : Run :=
  (rSeq (rO (oBox rd0) w1 <|
  rO (oMove (rdC (.bool false))) w2 <|
  rSkip) (rSeq (rO (oFieldAddr 0 rd1) wL0 <|
  rO (oLoad1 lo0) wL0 <|
  rO (oS sbEql lo0 (rdC (.str 0 0))) wL0 <|
  rO (oMove lo0) w2 <|
  rSkip) rRet))
def d282 : DF := .mk [w0] (resT rd2 resNil) c282
def c283 : Run :=
  (rSeq (rO (oBox rd0) w2 <|
  rO (oMove (rdC (.bool false))) w3 <|
  rSkip) (rSeq (rO (oFieldAddr 2 rd1) wL0 <|
  rO (oLoad1 lo0) wL0 <|
  rO (oMkFn 284 [] [rd2]) wL0 <|
  rCall 170 [lo1, lo0] wL0 <|
  rO (oMove lo0) w4 <|
  rSkip) (rSeq (rO (oFieldAddr 2 rd1) wL0 <|
  rO (oLoad1 lo0) wL0 <|
  rO (oMove rd4) wL0 <|
  rO (oI ibAdd lo0 (rdC (.int 3 (.ofNat 1)))) wL0 <|
  rO (oSliceV 4 lo2 (some lo0) none) wL0 <|
  rO (oMkFn 285 [] [rd2]) wL0 <|
  rCall 170 [lo1, lo0] wL0 <|
  rO (oMove lo0) w5 <|
  rSkip) (rSeq (rO (oMove rd5) wL0 <|
  rO (oI ibGeq lo0 (rdC (.int 3 (.ofNat 0)))) wL0 <|
  rO (oMove lo0) w3 <|
  rSkip) rRet))))
def d283 : DF := .mk [w0, w1] (resT rd3 resNil) c283
def c284 : Run :=
  (rSeq (rO (oBox rd0) w2 <|
  rO (oMove (rdC (.bool false))) w3 <|
  rSkip) (rSeq (rO (oFieldAddr 0 rd2) wL0 <|
  rO (oLoad1 lo0) wL0 <|
  rO (oFieldAddr 0 rd1) wL0 <|
  rO (oLoad1 lo0) wL0 <|
  rO (oS sbEql lo2 lo0) wL0 <|
  rO (oMove lo0) wL0 <|
  rG lo0 true wL0 (rO (oFieldAddr 1 rd2) wL0) <|
  rG lo1 true wL0 (rO (oLoad1 lo0) wL0) <|
  rG lo2 true wL0 (rO (oFieldAddr 1 rd1) wL0) <|
  rG lo3 true wL0 (rO (oLoad1 lo0) wL0) <|
  rG lo4 true wL0 (rO (oI ibEql lo2 lo0) wL0) <|
  rO (oPick lo5 lo0 (rdC (.bool false))) wL0 <|
  rO (oMove lo0) w3 <|
  rSkip) rRet))
def d284 : DF := .mk [w0, w1] (resT rd3 resNil) c284
def c285 : Run :=
  (rSeq (rO (oBox rd0) w2 <|
  rO (oMove (rdC (.bool false))) w3 <|
  rSkip) (rSeq (rO (oFieldAddr 0 rd2) wL0 <|
  rO (oLoad1 lo0) wL0 <|
  rO (oFieldAddr 0 rd1) wL0 <|
  rO (oLoad1 lo0) wL0 <|
  rO (oS sbEql lo2 lo0) wL0 <|
  rO (oMove lo0) wL0 <|
  rG lo0 true wL0 (rO (oFieldAddr 1 rd2) wL0) <|
  rG lo1 true wL0 (rO (oLoad1 lo0) wL0) <|
  rG lo2 true wL0 (rO (oFieldAddr 1 rd1) wL0) <|
  rG lo3 true wL0 (rO (oLoad1 lo0) wL0) <|
  rG lo4 true wL0 (rO (oI ibEql lo2 lo0) wL0) <|
  rO (oPick lo5 lo0 (rdC (.bool false))) wL0 <|
  rO (oMove lo0) w3 <|
  rSkip) rRet))
def d285 : DF := .mk [w0, w1] (resT rd3 resNil) c285
def c286 : Run :=
  (rSeq (rO (oBox rd1) w3 <|
  rO (oMove (rdC (.bool false))) w4 <|
  rSkip) (rSeq (rO (oMove rd0) wL0 <|
  rO (oMkFn 332 [] [rd3]) wL0 <|
  rCall 76 [lo1, lo0] wL0 <|
  rO (oNot lo0) wL0 <|
  rO (oMove lo0) w4 <|
  rSkip) rRet))
def d286 : DF := .mk [w0, w1] (resT rd4 resNil) c286
def c287 : Run :=
  (rSeq (rO (oBox rd0) w1 <|
  rO (oMove (rdC (.bool false))) w2 <|
  rSkip) (rSeq (rO (oFieldAddr 2 rd1) wL0 <|
  rO (oLoad1 lo0) wL0 <|
  rO (oLenV lo0) wL0 <|
  rO (oI ibGtr lo0 (rdC (.int 3 (.ofNat 0)))) wL0 <|
  rO (oMove lo0) wL0 <|
  rG lo0 true wL0 (rO (oFieldAddr 2 rd1) wL0) <|
  rG lo1 true wL0 (rO (oLoad1 lo0) wL0) <|
  rG lo2 true wL0 (rO (oLenV lo0) wL0) <|
  rG lo3 true wL0 (rO (oI ibLeq lo0 (rdC (.int 3 (.ofNat 60)))) wL0) <|
  rO (oPick lo4 lo0 (rdC (.bool false))) wL0 <|
  rO (oMove lo0) w2 <|
  rSkip) rRet))
def d287 : DF := .mk [w0] (resT rd2 resNil) c287
def c288 : Run :=
  (rSeq (rO (oBox rd0) w1 <|
  rO (oMove (rdC (.bool false))) w2 <|
  rSkip) (rSeq (rO (oFieldAddr 1 rd1) wL0 <|
  rO (oLoad1 lo0) wL0 <|
  rO (oI ibGeq lo0 (rdC (.int 3 (.ofNat 0)))) wL0 <|
  rO (oMove lo0) wL0 <|
  rG lo0 true wL0 (rO (oFieldAddr 1 rd1) wL0) <|
  rG lo1 true wL0 (rO (oLoad1 lo0) wL0) <|
  rG lo2 true wL0 (rO (oI ibLeq lo0 (rdC (.int 3 (.ofNat 4)))) wL0) <|
  rO (oPick lo3 lo0 (rdC (.bool false))) wL0 <|
  rO (oMove lo0) w2 <|
  rSkip) rRet))
def d288 : DF := .mk [w0] (resT rd2 resNil) c288
def c289 : Run :=
  (rSeq (rO (oMove (rdC (.bool false))) w2 <|
  rSkip) (rSeq (rO (oMove rd0) wL0 <|
  rO (oLenS lo0) wL0 <|
  rO (oI ibGtr lo0 (rdC (.int 3 (.ofNat 0)))) wL0 <|
  rO (oMove lo0) wL0 <|
  rG lo0 true wL0 (rO (oMove rd0) wL0) <|
  rG lo1 true wL0 (rO (oLenS lo0) wL0) <|
  rG lo2 true wL0 (rO (oI ibLeq lo0 (rdC (.int 3 (.ofNat 8)))) wL0) <|
  rO (oPick lo3 lo0 (rdC (.bool false))) wL0 <|
  rO (oMove lo0) wL0 <|
  rG lo0 true wL0 (rO (oMove rd0) wL0) <|
  rG lo1 true wL0 (rCall 297 [lo0, (rdC (.str 26 196808924543273351654744084199064270893917454994213902225728097))] wL0) <|
  rG lo2 true wL0 (rO (oS sbEql lo0 (rdC (.str 0 0))) wL0) <|
  rO (oPick lo3 lo0 (rdC (.bool false))) wL0 <|
  rO (oMove lo0) w2 <|
  rSkip) rRet))
def d289 : DF := .mk [w0] (resT rd2 resNil) c289
def c290 : Run :=
  (rSeq (rO (oBox rd0) w2 <|
  rO (oMove (rdC (.bool false))) w3 <|
  rSkip) (rSeq (rO (oLoad1 rd1) wL0 <|
  rO (oLoadN 4 rd2) wL0 <|
  rCallV lo1 [lo0] wL0 <|
  rO (oMove lo0) wL0 <|
  rG lo0 false wL0 (rO (oFieldAddr 0 rd2) wL0) <|
  rG lo1 false wL0 (rO (oLoad1 lo0) wL0) <|
  rG lo2 false wL0 (rCall 289 [lo0] wL0) <|
  rO (oPick lo3 (rdC (.bool true)) lo0) wL0 <|
  rO (oMove lo0) w3 <|
  rSkip) rRet))
def d290 : DF := .mk [w0, w1] (resT rd3 resNil) c290
def c291 : Run :=
  (rSeq (rO (oBox rd0) w3 <|
  rO (oMove (rdC (.bool false))) w4 <|
  rSkip) (rSeq (rO (oLoad1 rd1) wL0 <|
  rO (oLoadN 4 rd3) wL0 <|
  rCallV lo1 [lo0] wL0 <|
  rO (oMove lo0) wL0 <|
  rG lo0 true wL0 (rO (oFieldAddr 2 rd2) wL0) <|
  rG lo1 true wL0 (rO (oLoad1 lo0) wL0) <|
  rG lo2 true wL0 (rO (oLenV lo0) wL0) <|
  rG lo3 true wL0 (rO (oI ibGtr lo0 (rdC (.int 3 (.ofNat 1)))) wL0) <|
  rG lo4 true wL0 (rO (oMove lo0) wL0) <|
  rG lo0 false wL0 (rO (oFieldAddr 1 rd3) wL0) <|
  rG lo1 false wL0 (rO (oLoad1 lo0) wL0) <|
  rG lo2 false wL0 (rO (oI ibNeq lo0 (rdC (.int 3 (.ofNat 0)))) wL0) <|
  rG lo8 true wL0 (rO (oPick lo3 (rdC (.bool true)) lo0) wL0) <|
  rO (oPick lo9 lo0 (rdC (.bool false))) wL0 <|
  rO (oMove lo0) w4 <|
  rSkip) rRet))
def d291 : DF := .mk [w0, w1, w2] (resT rd4 resNil) c291
def c292 : Run :=
  (rSeq (rO (oBox rd1) w3 <|
  rO (oMove (rdC (.bool false))) w4 <|
  rSkip) (rSeq (rO (oMove rd0) wL0 <|
  rO (oMkFn 333 [] [rd3]) wL0 <|
  rCall 200 [lo1, lo0] wL0 <|
  rO (oNot lo0) wL0 <|
  rO (oMove lo0) w4 <|
  rSkip) rRet))
def d292 : DF := .mk [w0, w1] (resT rd4 resNil) c292
def c293 : Run :=
  (rSeq (rO (oMove (rdC (.bool false))) w3 <|
  rSkip) (rSeq (rO (oMove rd0) wL0 <|
  rO (oI ibGeq lo0 (rdC (.int 3 (.ofNat 0)))) wL0 <|
  rO (oMove lo0) wL0 <|
  rG lo0 true wL0 (rO (oMove rd0) wL0) <|
  rG lo1 true wL0 (rO (oLoad1 rd1) wL0) <|
  rG lo2 true wL0 (rO (oI ibLss lo1 lo0) wL0) <|
  rO (oPick lo3 lo0 (rdC (.bool false))) wL0 <|
  rO (oMove lo0) w3 <|
  rSkip) rRet))
def d293 : DF := .mk [w0, w1] (resT rd3 resNil) c293
def c294 : Run :=
  (rSeq (rO (oMove (rdC (.oth 1 0 [] []))) w2 <|
  rSkip) (rSeq (rO (oAlloc (mkCells [(.oth 1 0 [] [])])) w3 <|
  rSkip) (rSeq (rSeq (rO (oMove rd0) w7 <|
  rO (oLenV rd7) w8 <|
  rO (oMove (rdC (.int 3 (.ofNat 0)))) w9 <|
  rSkip) (rBlock 0 (rLoop (rSeq (rO (oI ibLss rd9 rd8) w10 <|
  rSkip) (rSeq (rCond rd10 rSkip (rExit 0)) (rSeq (rBlock 1 (rSeq (rO (oIndexAddrV 4 rd7 rd9) wL0 <|
  rO (oLoadN 4 lo0) wL0 <|
  rO (oAlloc (mkCells [(.int 3 (.ofNat 0)), (.str 0 0), (.int 3 (.ofNat 0)), (.oth 1 0 [] [])])) w5 <|
  rO (oStoreN 4 rd5 lo0) wN <|
  rSkip) (rSeq (rO (oFieldAddr 0 rd5) wL0 <|
  rO (oLoad1 lo0) wL0 <|
  rO (oI ibEql lo0 (rdC (.int 3 (.ofNat 5)))) wL0 <|
  rO (oMove lo0) wL0 <|
  rG lo0 false wL0 (rO (oFieldAddr 0 rd5) wL0) <|
  rG lo1 false wL0 (rO (oLoad1 lo0) wL0) <|
  rG lo2 false wL0 (rO (oI ibEql lo0 (rdC (.int 3 (.ofNat 3)))) wL0) <|
  rG lo3 false wL0 (rO (oMove lo0) wL0) <|
  rG lo0 true wL0 (rO (oFieldAddr 3 rd5) wL0) <|
  rG lo1 true wL0 (rO (oLoad1 lo0) wL0) <|
  rG lo2 true wL0 (rO (oMkFn 334 [] [rd3]) wL0) <|
  rG lo3 true wL0 (rCall 200 [lo1, lo0] wL0) <|
  rG lo8 false wL0 (rO (oPick lo4 lo0 (rdC (.bool false))) wL0) <|
  rO (oPick lo9 (rdC (.bool true)) lo0) wL0 <|
  rO (oMove lo0) w6 <|
  rSkip) (rO (oLoad1 rd3) wL0 <|
  rO (oMove rd6) wL0 <|
  rO (oBuildSlice 1 [(.bool false)] [(0, 1, lo0)]) wL0 <|
  rO (oAppend 1 lo2 lo0) wL0 <|
  rO (oStore1 rd3 lo0) wN <|
  rSkip)))) (rO (oI ibAdd rd9 (rdC (.int 3 (.ofNat 1)))) wL0 <|
  rO (oMove lo0) w9 <|
  rSkip))))))) (rSeq (rO (oLoad1 rd3) wL0 <|
  rO (oMove lo0) w2 <|
  rSkip) rRet))))
def d294 : DF := .mk [w0] (resT rd2 resNil) c294
def c295 : Run :=
  (rSeq (rO (oMove (rdC (.bool false))) w3 <|
  rSkip) (rSeq (rO (oLoad1 rd1) wL0 <|
  rO (oMove rd0) wL0 <|
  rO (oIndexAddrV 1 lo1 lo0) wL0 <|
  rO (oLoad1 lo0) wL0 <|
  rO (oMove lo0) w3 <|
  rSkip) rRet))
def d295 : DF := .mk [w0, w1] (resT rd3 resNil) c295
def c296 : Run :=
  (rSeq (rO (oMove (rdC (.bool false))) w3 <|
  rSkip) (rSeq (rO (oMove rd0) wL0 <|
  rO (oFieldAddr 0 rd1) wL0 <|
  rO (oLoad1 lo0) wL0 <|
  rO (oLenV lo0) wL0 <|
  rO (oI ibLss lo3 lo0) wL0 <|
  rO (oMove lo0) wL0 <|
  rG lo0 true wL0 (rO (oMove rd0) wL0) <|
  rG lo1 true wL0 (rO (oNeg lo0) wL0) <|
  rG lo2 true wL0 (rO (oI ibSub lo0 (rdC (.int 3 (.ofNat 1)))) wL0) <|
  rG lo3 true wL0 (rO (oFieldAddr 1 rd1) wL0) <|
  rG lo4 true wL0 (rO (oLoad1 lo0) wL0) <|
  rG lo5 true wL0 (rO (oLenV lo0) wL0) <|
  rG lo6 true wL0 (rO (oI ibLss lo3 lo0) wL0) <|
  rO (oPick lo7 lo0 (rdC (.bool false))) wL0 <|
  rO (oMove lo0) wL0 <|
  rG lo0 true wL0 (rO (oMove rd0) wL0) <|
  rG lo1 true wL0 (rO (oFieldAddr 1 rd1) wL0) <|
  rG lo2 true wL0 (rO (oLoad1 lo0) wL0) <|
  rG lo3 true wL0 (rO (oLenV lo0) wL0) <|
  rG lo4 true wL0 (rO (oNeg lo0) wL0) <|
  rG lo5 true wL0 (rO (oI ibGeq lo4 lo0) wL0) <|
  rO (oPick lo6 lo0 (rdC (.bool false))) wL0 <|
  rO (oMove lo0) w3 <|
  rSkip) rRet))
def d296 : DF := .mk [w0, w1] (resT rd3 resNil) c296
def c297 : Run :=
  (rSeq (rO (oMove (rdC (.str 0 0))) w4 <|
  rSkip) (rSeq (rSeq (rO (oMove rd0) wL0 <|
  rO (oS sbEql lo0 (rdC (.str 0 0))) wL0 <|
  rO (oMove lo0) wL0 <|
  rG lo0 false wL0 (rO (oMove rd1) wL0) <|
  rG lo1 false wL0 (rO (oS sbEql lo0 (rdC (.str 0 0))) wL0) <|
  rO (oPick lo2 (rdC (.bool true)) lo0) w12 <|
  rSkip) (rCond rd12 (rSeq (rO (oMove rd0) wL0 <|
  rO (oMove lo0) w4 <|
  rSkip) rRet) rSkip)) (rSeq (rSeq (rO (oMove rd1) wL0 <|
  rO (oLenS lo0) wL0 <|
  rO (oI ibEql lo0 (rdC (.int 3 (.ofNat 1)))) wL0 <|
  rO (oMove lo0) wL0 <|
  rG lo0 true wL0 (rO (oMove rd1) wL0) <|
  rG lo1 true wL0 (rO (oIndexS lo0 (rdC (.int 3 (.ofNat 0)))) wL0) <|
  rG lo2 true wL0 (rO (oI ibLss lo0 (rdC (.int 4 (.ofNat 128)))) wL0) <|
  rO (oPick lo3 lo0 (rdC (.bool false))) w21 <|
  rSkip) (rCond rd21 (rSeq (rO (oMove rd0) wL0 <|
  rO (oMove rd1) wL0 <|
  rO (oIndexS lo0 (rdC (.int 3 (.ofNat 0)))) wL0 <|
  rO (oMove rd1) wL0 <|
  rO (oIndexS lo0 (rdC (.int 3 (.ofNat 0)))) wL0 <|
  rCall 336 [lo4, lo2] wL0 <|
  rCall 335 [lo0, lo1] wL0 <|
  rO (oMove lo0) w4 <|
  rSkip) rRet) rSkip)) (rSeq (rSeq (rO (oMove rd1) wL0 <|
  rCall 337 [lo0] wL0 <|
  rO (oMove lo0) wL0 <|
  rO (oExtract 0 lo0) wL0 <|
  rO (oExtract 1 lo1) wL0 <|
  rO (oAlloc (mkCells [(.bool false), (.bool false), (.bool false), (.bool false), (.bool false), (.bool false), (.bool false), (.bool false), (.bool false), (.bool false), (.bool false), (.bool false), (.bool false), (.bool false), (.bool false), (.bool false), (.bool false), (.bool false), (.bool false), (.bool false), (.bool false), (.bool false), (.bool false), (.bool false), (.bool false), (.bool false), (.bool false), (.bool false), (.bool false), (.bool false), (.bool false), (.bool false), (.bool false), (.bool false), (.bool false), (.bool false), (.bool false), (.bool false), (.bool false), (.bool false), (.bool false), (.bool false), (.bool false), (.bool false), (.bool false), (.bool false), (.bool false), (.bool false), (.bool false), (.bool false), (.bool false), (.bool false), (.bool false), (.bool false), (.bool false), (.bool false), (.bool false), (.bool false), (.bool false), (.bool false), (.bool false), (.bool false), (.bool false), (.bool false), (.bool false), (.bool false), (.bool false), (.bool false), (.bool false), (.bool false), (.bool false), (.bool false), (.bool false), (.bool false), (.bool false), (.bool false), (.bool false), (.bool false), (.bool false), (.bool false), (.bool false), (.bool false), (.bool false), (.bool false), (.bool false), (.bool false), (.bool false), (.bool false), (.bool false), (.bool false), (.bool false), (.bool false), (.bool false), (.bool false), (.bool false), (.bool false), (.bool false), (.bool false), (.bool false), (.bool false), (.bool false), (.bool false), (.bool false), (.bool false), (.bool false), (.bool false), (.bool false), (.bool false), (.bool false), (.bool false), (.bool false), (.bool false), (.bool false), (.bool false), (.bool false), (.bool false), (.bool false), (.bool false), (.bool false), (.bool false), (.bool false), (.bool false), (.bool false), (.bool false), (.bool false), (.bool false), (.bool false), (.bool false), (.bool false), (.bool false), (.bool false), (.bool false), (.bool false), (.bool false), (.bool false), (.bool false), (.bool false), (.bool false), (.bool false), (.bool false), (.bool false), (.bool false), (.bool false), (.bool false), (.bool false), (.bool false), (.bool false), (.bool false), (.bool false), (.bool false), (.bool false), (.bool false), (.bool false), (.bool false), (.bool false), (.bool false), (.bool false), (.bool false), (.bool false), (.bool false), (.bool false), (.bool false), (.bool false), (.bool false), (.bool false), (.bool false), (.bool false), (.bool false), (.bool false), (.bool false), (.bool false), (.bool false), (.bool false), (.bool false), (.bool false), (.bool false), (.bool false), (.bool false), (.bool false), (.bool false), (.bool false), (.bool false), (.bool false), (.bool false), (.bool false), (.bool false), (.bool false), (.bool false), (.bool false), (.bool false), (.bool false), (.bool false), (.bool false), (.bool false), (.bool false), (.bool false), (.bool false), (.bool false), (.bool false), (.bool false), (.bool false), (.bool false), (.bool false), (.bool false), (.bool false), (.bool false), (.bool false), (.bool false), (.bool false), (.bool false), (.bool false), (.bool false), (.bool false), (.bool false), (.bool false), (.bool false), (.bool false), (.bool false), (.bool false), (.bool false), (.bool false), (.bool false), (.bool false), (.bool false), (.bool false), (.bool false), (.bool false), (.bool false), (.bool false), (.bool false), (.bool false), (.bool false), (.bool false), (.bool false), (.bool false), (.bool false), (.bool false), (.bool false), (.bool false), (.bool false), (.bool false), (.bool false), (.bool false), (.bool false), (.bool false), (.bool false), (.bool false), (.bool false), (.bool false), (.bool false), (.bool false), (.bool false), (.bool false), (.bool false), (.bool false), (.bool false)])) w5 <|
  rO (oStoreN 256 rd5 lo1) wN <|
  rO (oMove lo0) w6 <|
  rSkip) (rSeq (rO (oMove rd6) w34 <|
  rSkip) (rCond rd34 (rSeq (rO (oMove rd0) wL0 <|
  rCall 339 [lo0, rd5] wL0 <|
  rCall 338 [lo0, rd5] wL0 <|
  rO (oMove lo0) w4 <|
  rSkip) rRet) rSkip))) (rSeq (rO (oMove rd0) wL0 <|
  rO (oMove rd1) wL0 <|
  rCall 341 [lo1, lo0] wL0 <|
  rO (oMove rd1) wL0 <|
  rCall 340 [lo1, lo0] wL0 <|
  rO (oMove lo0) w4 <|
  rSkip) rRet)))))
def d297 : DF := .mk [w0, w1] (resT rd4 resNil) c297
def c298 : Run :=
  (rSeq (rO (oMove (rdC (.bool false))) w3 <|
  rSkip) (rSeq (rO (oLoad1 rd1) wL0 <|
  rO (oMove rd0) wL0 <|
  rCallV lo1 [lo0] wL0 <|
  rO (oNot lo0) wL0 <|
  rO (oMove lo0) w3 <|
  rSkip) rRet))
def d298 : DF := .mk [w0, w1] (resT rd3 resNil) c298
def c299 : Run :=
  (rSeq (rO (oMove (rdC (.bool false))) w3 <|
  rSkip) (rSeq (rO (oMove rd0) wL0 <|
  rO (oI ibGeq lo0 (rdC (.int 3 (.ofNat 0)))) wL0 <|
  rO (oMove lo0) wL0 <|
  rG lo0 true wL0 (rO (oMove rd0) wL0) <|
  rG lo1 true wL0 (rO (oFieldAddr 0 rd1) wL0) <|
  rG lo2 true wL0 (rO (oLoad1 lo0) wL0) <|
  rG lo3 true wL0 (rO (oLenV lo0) wL0) <|
  rG lo4 true wL0 (rO (oI ibLss lo3 lo0) wL0) <|
  rO (oPick lo5 lo0 (rdC (.bool false))) wL0 <|
  rO (oMove lo0) w3 <|
  rSkip) rRet))
def d299 : DF := .mk [w0, w1] (resT rd3 resNil) c299
def c300 : Run :=
  (rSeq (rO (oBox rd1) w3 <|
  rO (oMove (rdC (.bool false))) w4 <|
  rSkip) (rSeq (rO (oMove rd0) wL0 <|
  rO (oMkFn 342 [] [rd3]) wL0 <|
  rCall 80 [lo1, lo0] wL0 <|
  rO (oNot lo0) wL0 <|
  rO (oMove lo0) w4 <|
  rSkip) rRet))
def d300 : DF := .mk [w0, w1] (resT rd4 resNil) c300
def c301 : Run :=
  (rSeq (rO (oBox rd0) w1 <|
  rO (oMove (rdC (.bool false))) w2 <|
  rSkip) (rSeq (rO (oFieldAddr 1 rd1) wL0 <|
  rO (oLoad1 lo0) wL0 <|
  rO (oLenV lo0) wL0 <|
  rO (oI ibLeq lo0 (rdC (.int 3 (.ofNat 4)))) wL0 <|
  rO (oMove lo0) w2 <|
  rSkip) rRet))
def d301 : DF := .mk [w0] (resT rd2 resNil) c301
def c302 : Run :=
  (rSeq (rO (oBox rd0) w1 <|
  rO (oMove (rdC (.bool false))) w2 <|
  rSkip) (rSeq (rO (oFieldAddr 0 rd1) wL0 <|
  rO (oLoad1 lo0) wL0 <|
  rCall 303 [lo0] wL0 <|
  rO (oMove lo0) w2 <|
  rSkip) rRet))
def d302 : DF := .mk [w0] (resT rd2 resNil) c302
def c303 : Run :=
  (rSeq (rO (oMove (rdC (.bool false))) w2 <|
  rSkip) (rSeq (rO (oMove rd0) wL0 <|
  rO (oLenS lo0) wL0 <|
  rO (oI ibGtr lo0 (rdC (.int 3 (.ofNat 0)))) wL0 <|
  rO (oMove lo0) wL0 <|
  rG lo0 true wL0 (rO (oMove rd0) wL0) <|
  rG lo1 true wL0 (rO (oLenS lo0) wL0) <|
  rG lo2 true wL0 (rO (oI ibLeq lo0 (rdC (.int 3 (.ofNat 8)))) wL0) <|
  rO (oPick lo3 lo0 (rdC (.bool false))) wL0 <|
  rO (oMove lo0) wL0 <|
  rG lo0 true wL0 (rO (oMove rd0) wL0) <|
  rG lo1 true wL0 (rCall 297 [lo0, (rdC (.str 26 196808924543273351654744084199064270893917454994213902225728097))] wL0) <|
  rG lo2 true wL0 (rO (oS sbEql lo0 (rdC (.str 0 0))) wL0) <|
  rO (oPick lo3 lo0 (rdC (.bool false))) wL0 <|
  rO (oMove lo0) w2 <|
  rSkip) rRet))
def d303 : DF := .mk [w0] (resT rd2 resNil) c303
def c304 : Run :=
  (rSeq (rO (oBox rd0) w2 <|
  rO (oMove (rdC (.bool false))) w3 <|
  rSkip) (rSeq (rO (oFieldAddr 1 rd2) wL0 <|
  rO (oLoad1 lo0) wL0 <|
  rO (oLoad1 rd1) wL0 <|
  rCall 305 [lo1, lo0] wL0 <|
  rO (oMove lo0) w3 <|
  rSkip) rRet))
def d304 : DF := .mk [w0, w1] (resT rd3 resNil) c304
def c305 : Run :=
  (rSeq (rO (oBox rd1) w3 <|
  rO (oMove (rdC (.bool false))) w4 <|
  rSkip) (rSeq (rO (oMove rd0) wL0 <|
  rO (oMkFn 343 [] [rd3]) wL0 <|
  rCall 200 [lo1, lo0] wL0 <|
  rO (oNot lo0) wL0 <|
  rO (oMove lo0) w4 <|
  rSkip) rRet))
def d305 : DF := .mk [w0, w1] (resT rd4 resNil) c305
def c306 : Run :=
  (rSeq (rO (oMove rd1) wL0 <|
  rO (oI ibAdd lo0 (rdC (.int 3 (.ofNat 1)))) wL0 <|
  rO (oMove lo0) w6 <|
  rSkip) (rBlock 0 (rLoop (rSeq (rSeq (rO (oMove rd6) wL0 <|
  rO (oMove rd2) wL0 <|
  rO (oI ibLss lo1 lo0) w12 <|
  rSkip) (rCond rd12 rSkip (rExit 0))) (rSeq (rBlock 1 (rSeq (rO (oMove rd6) wL0 <|
  rO (oMove lo0) w7 <|
  rSkip) (rBlock 2 (rLoop (rSeq (rSeq (rO (oMove rd7) wL0 <|
  rO (oMove rd1) wL0 <|
  rO (oI ibGtr lo1 lo0) wL0 <|
  rO (oMove lo0) wL0 <|
  rG lo0 true wL0 (rO (oMove rd0) wL0) <|
  rG lo1 true wL0 (rO (oMove rd7) wL0) <|
  rG lo2 true wL0 (rO (oIndexAddrV 1 lo1 lo0) wL0) <|
  rG lo3 true wL0 (rO (oLoad1 lo0) wL0) <|
  rG lo4 true wL0 (rO (oMove rd0) wL0) <|
  rG lo5 true wL0 (rO (oMove rd7) wL0) <|
  rG lo6 true wL0 (rO (oI ibSub lo0 (rdC (.int 3 (.ofNat 1)))) wL0) <|
  rG lo7 true wL0 (rO (oIndexAddrV 1 lo2 lo0) wL0) <|
  rG lo8 true wL0 (rO (oLoad1 lo0) wL0) <|
  rG lo9 true wL0 (rCall 312 [lo5, lo0] wL0) <|
  rO (oPick lo10 lo0 (rdC (.bool false))) w30 <|
  rSkip) (rCond rd30 rSkip (rExit 2))) (rSeq (rBlock 3 (rO (oMove rd0) wL0 <|
  rO (oMove rd7) wL0 <|
  rO (oMove rd0) wL0 <|
  rO (oMove rd7) wL0 <|
  rO (oI ibSub lo0 (rdC (.int 3 (.ofNat 1)))) wL0 <|
  rO (oMove rd0) wL0 <|
  rO (oMove rd7) wL0 <|
  rO (oI ibSub lo0 (rdC (.int 3 (.ofNat 1)))) wL0 <|
  rO (oIndexAddrV 1 lo2 lo0) wL0 <|
  rO (oLoad1 lo0) wL0 <|
  rO (oMove rd0) wL0 <|
  rO (oMove rd7) wL0 <|
  rO (oIndexAddrV 1 lo1 lo0) wL0 <|
  rO (oLoad1 lo0) wL0 <|
  rO (oIndexAddrV 1 lo13 lo12) wL0 <|
  rO (oStore1 lo0 lo5) wN <|
  rO (oIndexAddrV 1 lo12 lo10) wL0 <|
  rO (oStore1 lo0 lo2) wN <|
  rSkip)) (rO (oMove rd7) wL0 <|
  rO (oI ibSub lo0 (rdC (.int 3 (.ofNat 1)))) wL0 <|
  rO (oMove lo0) w7 <|
  rSkip))))))) (rO (oMove rd6) wL0 <|
  rO (oI ibAdd lo0 (rdC (.int 3 (.ofNat 1)))) wL0 <|
  rO (oMove lo0) w6 <|
  rSkip))))))
def d306 : DF := .mk [w0, w1, w2] resNil c306
def c307 : Run :=
  (rSeq (rO (oMove rd1) wL0 <|
  rO (oMove lo0) w6 <|
  rSkip) (rSeq (rO (oMove (rdC (.int 3 (.ofNat 0)))) w7 <|
  rSkip) (rSeq (rO (oMove rd2) wL0 <|
  rO (oMove rd1) wL0 <|
  rO (oI ibSub lo1 lo0) wL0 <|
  rO (oMove lo0) w8 <|
  rSkip) (rSeq (rSeq (rO (oMove rd8) wL0 <|
  rO (oI ibSub lo0 (rdC (.int 3 (.ofNat 1)))) wL0 <|
  rO (oI ibQuo lo0 (rdC (.int 3 (.ofNat 2)))) wL0 <|
  rO (oMove lo0) w9 <|
  rSkip) (rBlock 0 (rLoop (rSeq (rSeq (rO (oMove rd9) wL0 <|
  rO (oI ibGeq lo0 (rdC (.int 3 (.ofNat 0)))) w19 <|
  rSkip) (rCond rd19 rSkip (rExit 0))) (rSeq (rBlock 1 (rO (oMove rd0) wL0 <|
  rO (oMove rd9) wL0 <|
  rO (oMove rd8) wL0 <|
  rO (oMove rd6) wL0 <|
  rCall 344 [lo3, lo2, lo1, lo0] wL0 <|
  rSkip)) (rO (oMove rd9) wL0 <|
  rO (oI ibSub lo0 (rdC (.int 3 (.ofNat 1)))) wL0 <|
  rO (oMove lo0) w9 <|
  rSkip)))))) (rSeq (rO (oMove rd8) wL0 <|
  rO (oI ibSub lo0 (rdC (.int 3 (.ofNat 1)))) wL0 <|
  rO (oMove lo0) w10 <|
  rSkip) (rBlock 2 (rLoop (rSeq (rSeq (rO (oMove rd10) wL0 <|
  rO (oI ibGeq lo0 (rdC (.int 3 (.ofNat 0)))) w30 <|
  rSkip) (rCond rd30 rSkip (rExit 2))) (rSeq (rBlock 3 (rSeq (rO (oMove rd0) wL0 <|
  rO (oMove rd6) wL0 <|
  rO (oMove rd0) wL0 <|
  rO (oMove rd6) wL0 <|
  rO (oMove rd10) wL0 <|
  rO (oI ibAdd lo1 lo0) wL0 <|
  rO (oMove rd0) wL0 <|
  rO (oMove rd6) wL0 <|
  rO (oMove rd10) wL0 <|
  rO (oI ibAdd lo1 lo0) wL0 <|
  rO (oIndexAddrV 1 lo3 lo0) wL0 <|
  rO (oLoad1 lo0) wL0 <|
  rO (oMove rd0) wL0 <|
  rO (oMove rd6) wL0 <|
  rO (oIndexAddrV 1 lo1 lo0) wL0 <|
  rO (oLoad1 lo0) wL0 <|
  rO (oIndexAddrV 1 lo15 lo14) wL0 <|
  rO (oStore1 lo0 lo5) wN <|
  rO (oIndexAddrV 1 lo14 lo11) wL0 <|
  rO (oStore1 lo0 lo2) wN <|
  rSkip) (rO (oMove rd0) wL0 <|
  rO (oMove rd7) wL0 <|
  rO (oMove rd10) wL0 <|
  rO (oMove rd6) wL0 <|
  rCall 344 [lo3, lo2, lo1, lo0] wL0 <|
  rSkip))) (rO (oMove rd10) wL0 <|
  rO (oI ibSub lo0 (rdC (.int 3 (.ofNat 1)))) wL0 <|
  rO (oMove lo0) w10 <|
  rSkip))))))))))
def d307 : DF := .mk [w0, w1, w2] resNil c307
def c308 : Run :=
  (rSeq (rO (oMove rd2) wL0 <|
  rO (oMove rd1) wL0 <|
  rO (oI ibSub lo1 lo0) wL0 <|
  rO (oMove lo0) w6 <|
  rSkip) (rSeq (rO (oMove rd6) wL0 <|
  rO (oI ibGeq lo0 (rdC (.int 3 (.ofNat 8)))) w15 <|
  rSkip) (rCond rd15 (rSeq (rO (oMove rd6) wL0 <|
  rO (oConv 7 lo0) wL0 <|
  rO (oAlloc (mkCells [(.int 7 (.ofNat 0))])) w7 <|
  rO (oStore1 rd7 lo0) wN <|
  rSkip) (rSeq (rO (oMove rd6) wL0 <|
  rCall 345 [lo0] wL0 <|
  rO (oMove lo0) w8 <|
  rSkip) (rSeq (rO (oMove rd1) wL0 <|
  rO (oMove rd6) wL0 <|
  rO (oI ibQuo lo0 (rdC (.int 3 (.ofNat 4)))) wL0 <|
  rO (oI ibMul lo0 (rdC (.int 3 (.ofNat 2)))) wL0 <|
  rO (oI ibAdd lo3 lo0) wL0 <|
  rO (oI ibSub lo0 (rdC (.int 3 (.ofNat 1)))) wL0 <|
  rO (oMove lo0) w9 <|
  rSkip) (rBlock 0 (rLoop (rSeq (rSeq (rO (oMove rd9) wL0 <|
  rO (oMove rd1) wL0 <|
  rO (oMove rd6) wL0 <|
  rO (oI ibQuo lo0 (rdC (.int 3 (.ofNat 4)))) wL0 <|
  rO (oI ibMul lo0 (rdC (.int 3 (.ofNat 2)))) wL0 <|
  rO (oI ibAdd lo3 lo0) wL0 <|
  rO (oI ibAdd lo0 (rdC (.int 3 (.ofNat 1)))) wL0 <|
  rO (oI ibLeq lo6 lo0) w33 <|
  rSkip) (rCond rd33 rSkip (rExit 0))) (rSeq (rBlock 1 (rSeq (rCall 346 [rd7] wL0 <|
  rO (oMove rd8) wL0 <|
  rO (oI ibSub lo0 (rdC (.int 7 (.ofNat 1)))) wL0 <|
  rO (oI (ibNat Nat.land) lo2 lo0) wL0 <|
  rO (oConv 3 lo0) wL0 <|
  rO (oMove lo0) w10 <|
  rSkip) (rSeq (rSeq (rO (oMove rd10) wL0 <|
  rO (oMove rd6) wL0 <|
  rO (oI ibGeq lo1 lo0) w43 <|
  rSkip) (rCond rd43 (rO (oMove rd10) wL0 <|
  rO (oMove rd6) wL0 <|
  rO (oI ibSub lo1 lo0) wL0 <|
  rO (oMove lo0) w10 <|
  rSkip) rSkip)) (rO (oMove rd0) wL0 <|
  rO (oMove rd9) wL0 <|
  rO (oMove rd0) wL0 <|
  rO (oMove rd1) wL0 <|
  rO (oMove rd10) wL0 <|
  rO (oI ibAdd lo1 lo0) wL0 <|
  rO (oMove rd0) wL0 <|
  rO (oMove rd1) wL0 <|
  rO (oMove rd10) wL0 <|
  rO (oI ibAdd lo1 lo0) wL0 <|
  rO (oIndexAddrV 1 lo3 lo0) wL0 <|
  rO (oLoad1 lo0) wL0 <|
  rO (oMove rd0) wL0 <|
  rO (oMove rd9) wL0 <|
  rO (oIndexAddrV 1 lo1 lo0) wL0 <|
  rO (oLoad1 lo0) wL0 <|
  rO (oIndexAddrV 1 lo15 lo14) wL0 <|
  rO (oStore1 lo0 lo5) wN <|
  rO (oIndexAddrV 1 lo14 lo11) wL0 <|
  rO (oStore1 lo0 lo2) wN <|
  rSkip)))) (rO (oMove rd9) wL0 <|
  rO (oI ibAdd lo0 (rdC (.int 3 (.ofNat 1)))) wL0 <|
  rO (oMove lo0) w9 <|
  rSkip)))))))) rSkip)))
def d308 : DF := .mk [w0, w1, w2] resNil c308
def c309 : Run :=
  (rSeq (rO (oMove (rdC (.int 3 (.ofNat 0)))) w6 <|
  rO (oMove (rdC (.int 3 (.ofNat 0)))) w7 <|
  rSkip) (rSeq (rO (oMove rd2) wL0 <|
  rO (oMove rd1) wL0 <|
  rO (oI ibSub lo1 lo0) wL0 <|
  rO (oMove lo0) w8 <|
  rSkip) (rSeq (rO (oAlloc (mkCells [(.int 3 (.ofNat 0))])) w9 <|
  rSkip) (rSeq (rO (oMove rd1) wL0 <|
  rO (oMove rd8) wL0 <|
  rO (oI ibQuo lo0 (rdC (.int 3 (.ofNat 4)))) wL0 <|
  rO (oI ibMul lo0 (rdC (.int 3 (.ofNat 1)))) wL0 <|
  rO (oI ibAdd lo3 lo0) wL0 <|
  rO (oMove lo0) w10 <|
  rSkip) (rSeq (rO (oMove rd1) wL0 <|
  rO (oMove rd8) wL0 <|
  rO (oI ibQuo lo0 (rdC (.int 3 (.ofNat 4)))) wL0 <|
  rO (oI ibMul lo0 (rdC (.int 3 (.ofNat 2)))) wL0 <|
  rO (oI ibAdd lo3 lo0) wL0 <|
  rO (oMove lo0) w11 <|
  rSkip) (rSeq (rO (oMove rd1) wL0 <|
  rO (oMove rd8) wL0 <|
  rO (oI ibQuo lo0 (rdC (.int 3 (.ofNat 4)))) wL0 <|
  rO (oI ibMul lo0 (rdC (.int 3 (.ofNat 3)))) wL0 <|
  rO (oI ibAdd lo3 lo0) wL0 <|
  rO (oMove lo0) w12 <|
  rSkip) (rSeq (rSeq (rO (oMove rd8) wL0 <|
  rO (oI ibGeq lo0 (rdC (.int 3 (.ofNat 8)))) w32 <|
  rSkip) (rCond rd32 (rSeq (rSeq (rO (oMove rd8) wL0 <|
  rO (oI ibGeq lo0 (rdC (.int 3 (.ofNat 50)))) w34 <|
  rSkip) (rCond rd34 (rSeq (rO (oMove rd0) wL0 <|
  rO (oMove rd10) wL0 <|
  rCall 347 [lo1, lo0, rd9] wL0 <|
  rO (oMove lo0) w10 <|
  rSkip) (rSeq (rO (oMove rd0) wL0 <|
  rO (oMove rd11) wL0 <|
  rCall 347 [lo1, lo0, rd9] wL0 <|
  rO (oMove lo0) w11 <|
  rSkip) (rO (oMove rd0) wL0 <|
  rO (oMove rd12) wL0 <|
  rCall 347 [lo1, lo0, rd9] wL0 <|
  rO (oMove lo0) w12 <|
  rSkip))) rSkip)) (rO (oMove rd0) wL0 <|
  rO (oMove rd10) wL0 <|
  rO (oMove rd11) wL0 <|
  rO (oMove rd12) wL0 <|
  rCall 348 [lo3, lo2, lo1, lo0, rd9] wL0 <|
  rO (oMove lo0) w11 <|
  rSkip)) rSkip)) (rSeq (rO (oLoad1 rd9) w49 <|
  rSkip) (rBlock 0 (rSeq (rO (oI ibEql rd49 (rdC (.int 3 (.ofNat 0)))) wL0 <|
  rO (oMove lo0) w51 <|
  rSkip) (rCond rd51 (rSeq (rO (oMove rd11) wL0 <|
  rO (oMove lo0) w6 <|
  rO (oMove (rdC (.int 3 (.ofNat 1)))) w7 <|
  rSkip) rRet) (rSeq (rO (oI ibEql rd49 (rdC (.int 3 (.ofNat 12)))) wL0 <|
  rO (oMove lo0) w54 <|
  rSkip) (rCond rd54 (rSeq (rO (oMove rd11) wL0 <|
  rO (oMove lo0) w6 <|
  rO (oMove (rdC (.int 3 (.ofNat 2)))) w7 <|
  rSkip) rRet) (rSeq (rO (oMove rd11) wL0 <|
  rO (oMove lo0) w6 <|
  rO (oMove (rdC (.int 3 (.ofNat 0)))) w7 <|
  rSkip) rRet))))))))))))))
def d309 : DF := .mk [w0, w1, w2] (resT rd6 (resT rd7 resNil)) c309
def c310 : Run :=
  (rSeq (rO (oMove rd1) wL0 <|
  rO (oMove lo0) w6 <|
  rSkip) (rSeq (rO (oMove rd2) wL0 <|
  rO (oI ibSub lo0 (rdC (.int 3 (.ofNat 1)))) wL0 <|
  rO (oMove lo0) w7 <|
  rSkip) (rBlock 0 (rLoop (rSeq (rSeq (rO (oMove rd6) wL0 <|
  rO (oMove rd7) wL0 <|
  rO (oI ibLss lo1 lo0) w13 <|
  rSkip) (rCond rd13 rSkip (rExit 0))) (rBlock 1 (rSeq (rO (oMove rd0) wL0 <|
  rO (oMove rd6) wL0 <|
  rO (oMove rd0) wL0 <|
  rO (oMove rd7) wL0 <|
  rO (oMove rd0) wL0 <|
  rO (oMove rd7) wL0 <|
  rO (oIndexAddrV 1 lo1 lo0) wL0 <|
  rO (oLoad1 lo0) wL0 <|
  rO (oMove rd0) wL0 <|
  rO (oMove rd6) wL0 <|
  rO (oIndexAddrV 1 lo1 lo0) wL0 <|
  rO (oLoad1 lo0) wL0 <|
  rO (oIndexAddrV 1 lo11 lo10) wL0 <|
  rO (oStore1 lo0 lo5) wN <|
  rO (oIndexAddrV 1 lo10 lo9) wL0 <|
  rO (oStore1 lo0 lo2) wN <|
  rSkip) (rSeq (rO (oMove rd6) wL0 <|
  rO (oI ibAdd lo0 (rdC (.int 3 (.ofNat 1)))) wL0 <|
  rO (oMove lo0) w6 <|
  rSkip) (rO (oMove rd7) wL0 <|
  rO (oI ibSub lo0 (rdC (.int 3 (.ofNat 1)))) wL0 <|
  rO (oMove lo0) w7 <|
  rSkip)))))))))
def d310 : DF := .mk [w0, w1, w2] resNil c310
def c311 : Run :=
  (rSeq (rO (oMove (rdC (.bool false))) w6 <|
  rSkip) (rSeq (rO (oMove rd1) wL0 <|
  rO (oI ibAdd lo0 (rdC (.int 3 (.ofNat 1)))) wL0 <|
  rO (oMove lo0) w7 <|
  rSkip) (rSeq (rSeq (rO (oMove (rdC (.int 3 (.ofNat 0)))) w8 <|
  rSkip) (rBlock 0 (rLoop (rSeq (rSeq (rO (oMove rd8) wL0 <|
  rO (oI ibLss lo0 (rdC (.int 3 (.ofNat 5)))) w14 <|
  rSkip) (rCond rd14 rSkip (rExit 0))) (rSeq (rBlock 1 (rSeq (rBlock 2 (rLoop (rSeq (rSeq (rO (oMove rd7) wL0 <|
  rO (oMove rd2) wL0 <|
  rO (oI ibLss lo1 lo0) wL0 <|
  rO (oMove lo0) wL0 <|
  rG lo0 true wL0 (rO (oMove rd0) wL0) <|
  rG lo1 true wL0 (rO (oMove rd7) wL0) <|
  rG lo2 true wL0 (rO (oIndexAddrV 1 lo1 lo0) wL0) <|
  rG lo3 true wL0 (rO (oLoad1 lo0) wL0) <|
  rG lo4 true wL0 (rO (oMove rd0) wL0) <|
  rG lo5 true wL0 (rO (oMove rd7) wL0) <|
  rG lo6 true wL0 (rO (oI ibSub lo0 (rdC (.int 3 (.ofNat 1)))) wL0) <|
  rG lo7 true wL0 (rO (oIndexAddrV 1 lo2 lo0) wL0) <|
  rG lo8 true wL0 (rO (oLoad1 lo0) wL0) <|
  rG lo9 true wL0 (rCall 312 [lo5, lo0] wL0) <|
  rG lo10 true wL0 (rO (oNot lo0) wL0) <|
  rO (oPick lo11 lo0 (rdC (.bool false))) w32 <|
  rSkip) (rCond rd32 rSkip (rExit 2))) (rBlock 3 (rO (oMove rd7) wL0 <|
  rO (oI ibAdd lo0 (rdC (.int 3 (.ofNat 1)))) wL0 <|
  rO (oMove lo0) w7 <|
  rSkip))))) (rSeq (rSeq (rO (oMove rd7) wL0 <|
  rO (oMove rd2) wL0 <|
  rO (oI ibEql lo1 lo0) w37 <|
  rSkip) (rCond rd37 (rSeq (rO (oMove (rdC (.bool true))) w6 <|
  rSkip) rRet) rSkip)) (rSeq (rSeq (rO (oMove rd2) wL0 <|
  rO (oMove rd1) wL0 <|
  rO (oI ibSub lo1 lo0) wL0 <|
  rO (oI ibLss lo0 (rdC (.int 3 (.ofNat 50)))) w41 <|
  rSkip) (rCond rd41 (rSeq (rO (oMove (rdC (.bool false))) w6 <|
  rSkip) rRet) rSkip)) (rSeq (rO (oMove rd0) wL0 <|
  rO (oMove rd7) wL0 <|
  rO (oMove rd0) wL0 <|
  rO (oMove rd7) wL0 <|
  rO (oI ibSub lo0 (rdC (.int 3 (.ofNat 1)))) wL0 <|
  rO (oMove rd0) wL0 <|
  rO (oMove rd7) wL0 <|
  rO (oI ibSub lo0 (rdC (.int 3 (.ofNat 1)))) wL0 <|
  rO (oIndexAddrV 1 lo2 lo0) wL0 <|
  rO (oLoad1 lo0) wL0 <|
  rO (oMove rd0) wL0 <|
  rO (oMove rd7) wL0 <|
  rO (oIndexAddrV 1 lo1 lo0) wL0 <|
  rO (oLoad1 lo0) wL0 <|
  rO (oIndexAddrV 1 lo13 lo12) wL0 <|
  rO (oStore1 lo0 lo5) wN <|
  rO (oIndexAddrV 1 lo12 lo10) wL0 <|
  rO (oStore1 lo0 lo2) wN <|
  rSkip) (rSeq (rSeq (rO (oMove rd7) wL0 <|
  rO (oMove rd1) wL0 <|
  rO (oI ibSub lo1 lo0) wL0 <|
  rO (oI ibGeq lo0 (rdC (.int 3 (.ofNat 2)))) w61 <|
  rSkip) (rCond rd61 (rSeq (rO (oMove rd7) wL0 <|
  rO (oI ibSub lo0 (rdC (.int 3 (.ofNat 1)))) wL0 <|
  rO (oMove lo0) w9 <|
  rSkip) (rBlock 4 (rLoop (rSeq (rSeq (rO (oMove rd9) wL0 <|
  rO (oI ibGeq lo0 (rdC (.int 3 (.ofNat 1)))) w65 <|
  rSkip) (rCond rd65 rSkip (rExit 4))) (rSeq (rBlock 5 (rSeq (rSeq (rO (oMove rd0) wL0 <|
  rO (oMove rd9) wL0 <|
  rO (oIndexAddrV 1 lo1 lo0) wL0 <|
  rO (oLoad1 lo0) wL0 <|
  rO (oMove rd0) wL0 <|
  rO (oMove rd9) wL0 <|
  rO (oI ibSub lo0 (rdC (.int 3 (.ofNat 1)))) wL0 <|
  rO (oIndexAddrV 1 lo2 lo0) wL0 <|
  rO (oLoad1 lo0) wL0 <|
  rCall 312 [lo5, lo0] wL0 <|
  rO (oNot lo0) w78 <|
  rSkip) (rCond rd78 (rExit 4) rSkip)) (rO (oMove rd0) wL0 <|
  rO (oMove rd9) wL0 <|
  rO (oMove rd0) wL0 <|
  rO (oMove rd9) wL0 <|
  rO (oI ibSub lo0 (rdC (.int 3 (.ofNat 1)))) wL0 <|
  rO (oMove rd0) wL0 <|
  rO (oMove rd9) wL0 <|
  rO (oI ibSub lo0 (rdC (.int 3 (.ofNat 1)))) wL0 <|
  rO (oIndexAddrV 1 lo2 lo0) wL0 <|
  rO (oLoad1 lo0) wL0 <|
  rO (oMove rd0) wL0 <|
  rO (oMove rd9) wL0 <|
  rO (oIndexAddrV 1 lo1 lo0) wL0 <|
  rO (oLoad1 lo0) wL0 <|
  rO (oIndexAddrV 1 lo13 lo12) wL0 <|
  rO (oStore1 lo0 lo5) wN <|
  rO (oIndexAddrV 1 lo12 lo10) wL0 <|
  rO (oStore1 lo0 lo2) wN <|
  rSkip))) (rO (oMove rd9) wL0 <|
  rO (oI ibSub lo0 (rdC (.int 3 (.ofNat 1)))) wL0 <|
  rO (oMove lo0) w9 <|
  rSkip)))))) rSkip)) (rSeq (rO (oMove rd2) wL0 <|
  rO (oMove rd7) wL0 <|
  rO (oI ibSub lo1 lo0) wL0 <|
  rO (oI ibGeq lo0 (rdC (.int 3 (.ofNat 2)))) w98 <|
  rSkip) (rCond rd98 (rSeq (rO (oMove rd7) wL0 <|
  rO (oI ibAdd lo0 (rdC (.int 3 (.ofNat 1)))) wL0 <|
  rO (oMove lo0) w10 <|
  rSkip) (rBlock 6 (rLoop (rSeq (rSeq (rO (oMove rd10) wL0 <|
  rO (oMove rd2) wL0 <|
  rO (oI ibLss lo1 lo0) w103 <|
  rSkip) (rCond rd103 rSkip (rExit 6))) (rSeq (rBlock 7 (rSeq (rSeq (rO (oMove rd0) wL0 <|
  rO (oMove rd10) wL0 <|
  rO (oIndexAddrV 1 lo1 lo0) wL0 <|
  rO (oLoad1 lo0) wL0 <|
  rO (oMove rd0) wL0 <|
  rO (oMove rd10) wL0 <|
  rO (oI ibSub lo0 (rdC (.int 3 (.ofNat 1)))) wL0 <|
  rO (oIndexAddrV 1 lo2 lo0) wL0 <|
  rO (oLoad1 lo0) wL0 <|
  rCall 312 [lo5, lo0] wL0 <|
  rO (oNot lo0) w116 <|
  rSkip) (rCond rd116 (rExit 6) rSkip)) (rO (oMove rd0) wL0 <|
  rO (oMove rd10) wL0 <|
  rO (oMove rd0) wL0 <|
  rO (oMove rd10) wL0 <|
  rO (oI ibSub lo0 (rdC (.int 3 (.ofNat 1)))) wL0 <|
  rO (oMove rd0) wL0 <|
  rO (oMove rd10) wL0 <|
  rO (oI ibSub lo0 (rdC (.int 3 (.ofNat 1)))) wL0 <|
  rO (oIndexAddrV 1 lo2 lo0) wL0 <|
  rO (oLoad1 lo0) wL0 <|
  rO (oMove rd0) wL0 <|
  rO (oMove rd10) wL0 <|
  rO (oIndexAddrV 1 lo1 lo0) wL0 <|
  rO (oLoad1 lo0) wL0 <|
  rO (oIndexAddrV 1 lo13 lo12) wL0 <|
  rO (oStore1 lo0 lo5) wN <|
  rO (oIndexAddrV 1 lo12 lo10) wL0 <|
  rO (oStore1 lo0 lo2) wN <|
  rSkip))) (rO (oMove rd10) wL0 <|
  rO (oI ibAdd lo0 (rdC (.int 3 (.ofNat 1)))) wL0 <|
  rO (oMove lo0) w10 <|
  rSkip)))))) rSkip)))))))) (rO (oMove rd8) wL0 <|
  rO (oI ibAdd lo0 (rdC (.int 3 (.ofNat 1)))) wL0 <|
  rO (oMove lo0) w8 <|
  rSkip)))))) (rSeq (rO (oMove (rdC (.bool false))) w6 <|
  rSkip) rRet))))
def d311 : DF := .mk [w0, w1, w2] (resT rd6 resNil) c311
def c312 : Run :=
  (rSeq (rO (oMove (rdC (.bool false))) w4 <|
  rSkip) (rSeq (rO (oMove rd0) wL0 <|
  rCall 210 [lo0] wL0 <|
  rO (oMove lo0) wL0 <|
  rG lo0 true wL0 (rO (oMove rd1) wL0) <|
  rG lo1 true wL0 (rCall 210 [lo0] wL0) <|
  rG lo2 true wL0 (rO (oNot lo0) wL0) <|
  rO (oPick lo3 lo0 (rdC (.bool false))) wL0 <|
  rO (oMove lo0) wL0 <|
  rG lo0 false wL0 (rO (oMove rd0) wL0) <|
  rG lo1 false wL0 (rO (oMove rd1) wL0) <|
  rG lo2 false wL0 (rO (oI ibLss lo1 lo0) wL0) <|
  rO (oPick lo3 (rdC (.bool true)) lo0) wL0 <|
  rO (oMove lo0) w4 <|
  rSkip) rRet))
def d312 : DF := .mk [w0, w1] (resT rd4 resNil) c312
def c313 : Run :=
  (rSeq (rO (oMove (rdC (.int 3 (.ofNat 0)))) w8 <|
  rSkip) (rSeq (rO (oMove rd0) wL0 <|
  rO (oMove rd1) wL0 <|
  rO (oMove rd0) wL0 <|
  rO (oMove rd3) wL0 <|
  rO (oMove rd0) wL0 <|
  rO (oMove rd3) wL0 <|
  rO (oIndexAddrV 1 lo1 lo0) wL0 <|
  rO (oLoad1 lo0) wL0 <|
  rO (oMove rd0) wL0 <|
  rO (oMove rd1) wL0 <|
  rO (oIndexAddrV 1 lo1 lo0) wL0 <|
  rO (oLoad1 lo0) wL0 <|
  rO (oIndexAddrV 1 lo11 lo10) wL0 <|
  rO (oStore1 lo0 lo5) wN <|
  rO (oIndexAddrV 1 lo10 lo9) wL0 <|
  rO (oStore1 lo0 lo2) wN <|
  rSkip) (rSeq (rO (oMove rd1) wL0 <|
  rO (oI ibAdd lo0 (rdC (.int 3 (.ofNat 1)))) wL0 <|
  rO (oMove rd2) wL0 <|
  rO (oI ibSub lo0 (rdC (.int 3 (.ofNat 1)))) wL0 <|
  rO (oMove lo2) w9 <|
  rO (oMove lo0) w10 <|
  rSkip) (rSeq (rBlock 0 (rLoop (rBlock 1 (rSeq (rBlock 2 (rLoop (rSeq (rSeq (rO (oMove rd9) wL0 <|
  rO (oMove rd10) wL0 <|
  rO (oI ibLeq lo1 lo0) wL0 <|
  rO (oMove lo0) wL0 <|
  rG lo0 true wL0 (rO (oMove rd0) wL0) <|
  rG lo1 true wL0 (rO (oMove rd1) wL0) <|
  rG lo2 true wL0 (rO (oIndexAddrV 1 lo1 lo0) wL0) <|
  rG lo3 true wL0 (rO (oLoad1 lo0) wL0) <|
  rG lo4 true wL0 (rO (oMove rd0) wL0) <|
  rG lo5 true wL0 (rO (oMove rd9) wL0) <|
  rG lo6 true wL0 (rO (oIndexAddrV 1 lo1 lo0) wL0) <|
  rG lo7 true wL0 (rO (oLoad1 lo0) wL0) <|
  rG lo8 true wL0 (rCall 312 [lo4, lo0] wL0) <|
  rG lo9 true wL0 (rO (oNot lo0) wL0) <|
  rO (oPick lo10 lo0 (rdC (.bool false))) w43 <|
  rSkip) (rCond rd43 rSkip (rExit 2))) (rBlock 3 (rO (oMove rd9) wL0 <|
  rO (oI ibAdd lo0 (rdC (.int 3 (.ofNat 1)))) wL0 <|
  rO (oMove lo0) w9 <|
  rSkip))))) (rSeq (rBlock 4 (rLoop (rSeq (rSeq (rO (oMove rd9) wL0 <|
  rO (oMove rd10) wL0 <|
  rO (oI ibLeq lo1 lo0) wL0 <|
  rO (oMove lo0) wL0 <|
  rG lo0 true wL0 (rO (oMove rd0) wL0) <|
  rG lo1 true wL0 (rO (oMove rd1) wL0) <|
  rG lo2 true wL0 (rO (oIndexAddrV 1 lo1 lo0) wL0) <|
  rG lo3 true wL0 (rO (oLoad1 lo0) wL0) <|
  rG lo4 true wL0 (rO (oMove rd0) wL0) <|
  rG lo5 true wL0 (rO (oMove rd10) wL0) <|
  rG lo6 true wL0 (rO (oIndexAddrV 1 lo1 lo0) wL0) <|
  rG lo7 true wL0 (rO (oLoad1 lo0) wL0) <|
  rG lo8 true wL0 (rCall 312 [lo4, lo0] wL0) <|
  rO (oPick lo9 lo0 (rdC (.bool false))) w59 <|
  rSkip) (rCond rd59 rSkip (rExit 4))) (rBlock 5 (rO (oMove rd10) wL0 <|
  rO (oI ibSub lo0 (rdC (.int 3 (.ofNat 1)))) wL0 <|
  rO (oMove lo0) w10 <|
  rSkip))))) (rSeq (rSeq (rO (oMove rd9) wL0 <|
  rO (oMove rd10) wL0 <|
  rO (oI ibGtr lo1 lo0) w64 <|
  rSkip) (rCond rd64 (rExit 0) rSkip)) (rSeq (rO (oMove rd0) wL0 <|
  rO (oMove rd9) wL0 <|
  rO (oMove rd0) wL0 <|
  rO (oMove rd10) wL0 <|
  rO (oMove rd0) wL0 <|
  rO (oMove rd10) wL0 <|
  rO (oIndexAddrV 1 lo1 lo0) wL0 <|
  rO (oLoad1 lo0) wL0 <|
  rO (oMove rd0) wL0 <|
  rO (oMove rd9) wL0 <|
  rO (oIndexAddrV 1 lo1 lo0) wL0 <|
  rO (oLoad1 lo0) wL0 <|
  rO (oIndexAddrV 1 lo11 lo10) wL0 <|
  rO (oStore1 lo0 lo5) wN <|
  rO (oIndexAddrV 1 lo10 lo9) wL0 <|
  rO (oStore1 lo0 lo2) wN <|
  rSkip) (rSeq (rO (oMove rd9) wL0 <|
  rO (oI ibAdd lo0 (rdC (.int 3 (.ofNat 1)))) wL0 <|
  rO (oMove lo0) w9 <|
  rSkip) (rO (oMove rd10) wL0 <|
  rO (oI ibSub lo0 (rdC (.int 3 (.ofNat 1)))) wL0 <|
  rO (oMove lo0) w10 <|
  rSkip))))))))) (rSeq (rO (oMove rd9) wL0 <|
  rO (oMove lo0) w8 <|
  rSkip) rRet)))))
def d313 : DF := .mk [w0, w1, w2, w3] (resT rd8 resNil) c313
def c314 : Run :=
  (rSeq (rO (oMove (rdC (.int 3 (.ofNat 0)))) w8 <|
  rO (oMove (rdC (.bool false))) w9 <|
  rSkip) (rSeq (rO (oMove rd0) wL0 <|
  rO (oMove rd1) wL0 <|
  rO (oMove rd0) wL0 <|
  rO (oMove rd3) wL0 <|
  rO (oMove rd0) wL0 <|
  rO (oMove rd3) wL0 <|
  rO (oIndexAddrV 1 lo1 lo0) wL0 <|
  rO (oLoad1 lo0) wL0 <|
  rO (oMove rd0) wL0 <|
  rO (oMove rd1) wL0 <|
  rO (oIndexAddrV 1 lo1 lo0) wL0 <|
  rO (oLoad1 lo0) wL0 <|
  rO (oIndexAddrV 1 lo11 lo10) wL0 <|
  rO (oStore1 lo0 lo5) wN <|
  rO (oIndexAddrV 1 lo10 lo9) wL0 <|
  rO (oStore1 lo0 lo2) wN <|
  rSkip) (rSeq (rO (oMove rd1) wL0 <|
  rO (oI ibAdd lo0 (rdC (.int 3 (.ofNat 1)))) wL0 <|
  rO (oMove rd2) wL0 <|
  rO (oI ibSub lo0 (rdC (.int 3 (.ofNat 1)))) wL0 <|
  rO (oMove lo2) w10 <|
  rO (oMove lo0) w11 <|
  rSkip) (rSeq (rBlock 0 (rLoop (rSeq (rSeq (rO (oMove rd10) wL0 <|
  rO (oMove rd11) wL0 <|
  rO (oI ibLeq lo1 lo0) wL0 <|
  rO (oMove lo0) wL0 <|
  rG lo0 true wL0 (rO (oMove rd0) wL0) <|
  rG lo1 true wL0 (rO (oMove rd10) wL0) <|
  rG lo2 true wL0 (rO (oIndexAddrV 1 lo1 lo0) wL0) <|
  rG lo3 true wL0 (rO (oLoad1 lo0) wL0) <|
  rG lo4 true wL0 (rO (oMove rd0) wL0) <|
  rG lo5 true wL0 (rO (oMove rd1) wL0) <|
  rG lo6 true wL0 (rO (oIndexAddrV 1 lo1 lo0) wL0) <|
  rG lo7 true wL0 (rO (oLoad1 lo0) wL0) <|
  rG lo8 true wL0 (rCall 312 [lo4, lo0] wL0) <|
  rO (oPick lo9 lo0 (rdC (.bool false))) w43 <|
  rSkip) (rCond rd43 rSkip (rExit 0))) (rBlock 1 (rO (oMove rd10) wL0 <|
  rO (oI ibAdd lo0 (rdC (.int 3 (.ofNat 1)))) wL0 <|
  rO (oMove lo0) w10 <|
  rSkip))))) (rSeq (rBlock 2 (rLoop (rSeq (rSeq (rO (oMove rd10) wL0 <|
  rO (oMove rd11) wL0 <|
  rO (oI ibLeq lo1 lo0) wL0 <|
  rO (oMove lo0) wL0 <|
  rG lo0 true wL0 (rO (oMove rd0) wL0) <|
  rG lo1 true wL0 (rO (oMove rd11) wL0) <|
  rG lo2 true wL0 (rO (oIndexAddrV 1 lo1 lo0) wL0) <|
  rG lo3 true wL0 (rO (oLoad1 lo0) wL0) <|
  rG lo4 true wL0 (rO (oMove rd0) wL0) <|
  rG lo5 true wL0 (rO (oMove rd1) wL0) <|
  rG lo6 true wL0 (rO (oIndexAddrV 1 lo1 lo0) wL0) <|
  rG lo7 true wL0 (rO (oLoad1 lo0) wL0) <|
  rG lo8 true wL0 (rCall 312 [lo4, lo0] wL0) <|
  rG lo9 true wL0 (rO (oNot lo0) wL0) <|
  rO (oPick lo10 lo0 (rdC (.bool false))) w60 <|
  rSkip) (rCond rd60 rSkip (rExit 2))) (rBlock 3 (rO (oMove rd11) wL0 <|
  rO (oI ibSub lo0 (rdC (.int 3 (.ofNat 1)))) wL0 <|
  rO (oMove lo0) w11 <|
  rSkip))))) (rSeq (rSeq (rO (oMove rd10) wL0 <|
  rO (oMove rd11) wL0 <|
  rO (oI ibGtr lo1 lo0) w65 <|
  rSkip) (rCond rd65 (rSeq (rO (oMove rd0) wL0 <|
  rO (oMove rd11) wL0 <|
  rO (oMove rd0) wL0 <|
  rO (oMove rd1) wL0 <|
  rO (oMove rd0) wL0 <|
  rO (oMove rd1) wL0 <|
  rO (oIndexAddrV 1 lo1 lo0) wL0 <|
  rO (oLoad1 lo0) wL0 <|
  rO (oMove rd0) wL0 <|
  rO (oMove rd11) wL0 <|
  rO (oIndexAddrV 1 lo1 lo0) wL0 <|
  rO (oLoad1 lo0) wL0 <|
  rO (oIndexAddrV 1 lo11 lo10) wL0 <|
  rO (oStore1 lo0 lo5) wN <|
  rO (oIndexAddrV 1 lo10 lo9) wL0 <|
  rO (oStore1 lo0 lo2) wN <|
  rSkip) (rSeq (rO (oMove rd11) wL0 <|
  rO (oMove lo0) w8 <|
  rO (oMove (rdC (.bool true))) w9 <|
  rSkip) rRet)) rSkip)) (rSeq (rO (oMove rd0) wL0 <|
  rO (oMove rd10) wL0 <|
  rO (oMove rd0) wL0 <|
  rO (oMove rd11) wL0 <|
  rO (oMove rd0) wL0 <|
  rO (oMove rd11) wL0 <|
  rO (oIndexAddrV 1 lo1 lo0) wL0 <|
  rO (oLoad1 lo0) wL0 <|
  rO (oMove rd0) wL0 <|
  rO (oMove rd10) wL0 <|
  rO (oIndexAddrV 1 lo1 lo0) wL0 <|
  rO (oLoad1 lo0) wL0 <|
  rO (oIndexAddrV 1 lo11 lo10) wL0 <|
  rO (oStore1 lo0 lo5) wN <|
  rO (oIndexAddrV 1 lo10 lo9) wL0 <|
  rO (oStore1 lo0 lo2) wN <|
  rSkip) (rSeq (rO (oMove rd10) wL0 <|
  rO (oI ibAdd lo0 (rdC (.int 3 (.ofNat 1)))) wL0 <|
  rO (oMove lo0) w10 <|
  rSkip) (rSeq (rO (oMove rd11) wL0 <|
  rO (oI ibSub lo0 (rdC (.int 3 (.ofNat 1)))) wL0 <|
  rO (oMove lo0) w11 <|
  rSkip) (rSeq (rBlock 4 (rLoop (rBlock 5 (rSeq (rBlock 6 (rLoop (rSeq (rSeq (rO (oMove rd10) wL0 <|
  rO (oMove rd11) wL0 <|
  rO (oI ibLeq lo1 lo0) wL0 <|
  rO (oMove lo0) wL0 <|
  rG lo0 true wL0 (rO (oMove rd0) wL0) <|
  rG lo1 true wL0 (rO (oMove rd10) wL0) <|
  rG lo2 true wL0 (rO (oIndexAddrV 1 lo1 lo0) wL0) <|
  rG lo3 true wL0 (rO (oLoad1 lo0) wL0) <|
  rG lo4 true wL0 (rO (oMove rd0) wL0) <|
  rG lo5 true wL0 (rO (oMove rd1) wL0) <|
  rG lo6 true wL0 (rO (oIndexAddrV 1 lo1 lo0) wL0) <|
  rG lo7 true wL0 (rO (oLoad1 lo0) wL0) <|
  rG lo8 true wL0 (rCall 312 [lo4, lo0] wL0) <|
  rO (oPick lo9 lo0 (rdC (.bool false))) w112 <|
  rSkip) (rCond rd112 rSkip (rExit 6))) (rBlock 7 (rO (oMove rd10) wL0 <|
  rO (oI ibAdd lo0 (rdC (.int 3 (.ofNat 1)))) wL0 <|
  rO (oMove lo0) w10 <|
  rSkip))))) (rSeq (rBlock 8 (rLoop (rSeq (rSeq (rO (oMove rd10) wL0 <|
  rO (oMove rd11) wL0 <|
  rO (oI ibLeq lo1 lo0) wL0 <|
  rO (oMove lo0) wL0 <|
  rG lo0 true wL0 (rO (oMove rd0) wL0) <|
  rG lo1 true wL0 (rO (oMove rd11) wL0) <|
  rG lo2 true wL0 (rO (oIndexAddrV 1 lo1 lo0) wL0) <|
  rG lo3 true wL0 (rO (oLoad1 lo0) wL0) <|
  rG lo4 true wL0 (rO (oMove rd0) wL0) <|
  rG lo5 true wL0 (rO (oMove rd1) wL0) <|
  rG lo6 true wL0 (rO (oIndexAddrV 1 lo1 lo0) wL0) <|
  rG lo7 true wL0 (rO (oLoad1 lo0) wL0) <|
  rG lo8 true wL0 (rCall 312 [lo4, lo0] wL0) <|
  rG lo9 true wL0 (rO (oNot lo0) wL0) <|
  rO (oPick lo10 lo0 (rdC (.bool false))) w129 <|
  rSkip) (rCond rd129 rSkip (rExit 8))) (rBlock 9 (rO (oMove rd11) wL0 <|
  rO (oI ibSub lo0 (rdC (.int 3 (.ofNat 1)))) wL0 <|
  rO (oMove lo0) w11 <|
  rSkip))))) (rSeq (rSeq (rO (oMove rd10) wL0 <|
  rO (oMove rd11) wL0 <|
  rO (oI ibGtr lo1 lo0) w134 <|
  rSkip) (rCond rd134 (rExit 4) rSkip)) (rSeq (rO (oMove rd0) wL0 <|
  rO (oMove rd10) wL0 <|
  rO (oMove rd0) wL0 <|
  rO (oMove rd11) wL0 <|
  rO (oMove rd0) wL0 <|
  rO (oMove rd11) wL0 <|
  rO (oIndexAddrV 1 lo1 lo0) wL0 <|
  rO (oLoad1 lo0) wL0 <|
  rO (oMove rd0) wL0 <|
  rO (oMove rd10) wL0 <|
  rO (oIndexAddrV 1 lo1 lo0) wL0 <|
  rO (oLoad1 lo0) wL0 <|
  rO (oIndexAddrV 1 lo11 lo10) wL0 <|
  rO (oStore1 lo0 lo5) wN <|
  rO (oIndexAddrV 1 lo10 lo9) wL0 <|
  rO (oStore1 lo0 lo2) wN <|
  rSkip) (rSeq (rO (oMove rd10) wL0 <|
  rO (oI ibAdd lo0 (rdC (.int 3 (.ofNat 1)))) wL0 <|
  rO (oMove lo0) w10 <|
  rSkip) (rO (oMove rd11) wL0 <|
  rO (oI ibSub lo0 (rdC (.int 3 (.ofNat 1)))) wL0 <|
  rO (oMove lo0) w11 <|
  rSkip))))))))) (rSeq (rO (oMove rd0) wL0 <|
  rO (oMove rd11) wL0 <|
  rO (oMove rd0) wL0 <|
  rO (oMove rd1) wL0 <|
  rO (oMove rd0) wL0 <|
  rO (oMove rd1) wL0 <|
  rO (oIndexAddrV 1 lo1 lo0) wL0 <|
  rO (oLoad1 lo0) wL0 <|
  rO (oMove rd0) wL0 <|
  rO (oMove rd11) wL0 <|
  rO (oIndexAddrV 1 lo1 lo0) wL0 <|
  rO (oLoad1 lo0) wL0 <|
  rO (oIndexAddrV 1 lo11 lo10) wL0 <|
  rO (oStore1 lo0 lo5) wN <|
  rO (oIndexAddrV 1 lo10 lo9) wL0 <|
  rO (oStore1 lo0 lo2) wN <|
  rSkip) (rSeq (rO (oMove rd11) wL0 <|
  rO (oMove lo0) w8 <|
  rO (oMove (rdC (.bool false))) w9 <|
  rSkip) rRet))))))))))))
def d314 : DF := .mk [w0, w1, w2, w3] (resT rd8 (resT rd9 resNil)) c314
def c315 : Run :=
  (rSeq (rO (oMove (rdC (.int 3 (.ofNat 0)))) w2 <|
  rSkip) (rSeq (rSeq (rO (oMove rd0) wL0 <|
  rO (oI ibGeq lo0 (rdC (.int 6 (.ofNat 65536)))) w4 <|
  rSkip) (rCond rd4 (rSeq (rO (oMove rd0) wL0 <|
  rO (oSh ibShr lo0 (rdC (.int 7 (.ofNat 16)))) wL0 <|
  rO (oMove lo0) w0 <|
  rSkip) (rO (oMove (rdC (.int 3 (.ofNat 16)))) w2 <|
  rSkip)) rSkip)) (rSeq (rSeq (rO (oMove rd0) wL0 <|
  rO (oI ibGeq lo0 (rdC (.int 6 (.ofNat 256)))) w8 <|
  rSkip) (rCond rd8 (rSeq (rO (oMove rd0) wL0 <|
  rO (oSh ibShr lo0 (rdC (.int 7 (.ofNat 8)))) wL0 <|
  rO (oMove lo0) w0 <|
  rSkip) (rO (oMove rd2) wL0 <|
  rO (oI ibAdd lo0 (rdC (.int 3 (.ofNat 8)))) wL0 <|
  rO (oMove lo0) w2 <|
  rSkip)) rSkip)) (rSeq (rO (oMove rd2) wL0 <|
  rO (oMove rd0) wL0 <|
  rO (oConv 4 lo0) wL0 <|
  rO (oIndexS (rdC (.str 256 1013866857139168856493015739252390649739422828853819106890363778118420553376247557433637691341895324351018602695588957474325319502760499485336098898398377509666851054660423406800006203933793007272033180812049178612605246075062580585469430410618860250057463399279570354286669047577758927328864388992123306212451509403152394148136105363817402562688186708175358218852349079190158732807302672745370040257219644697201681238697346923541678507645485296520536209706771857694240900605172937619415410180424934769249448772944216470541052485265558808433676546390051204254346932932316488017972311616136051587427851453983453479168)) lo0) wL0 <|
  rO (oConv 3 lo0) wL0 <|
  rO (oI ibAdd lo4 lo0) wL0 <|
  rO (oMove lo0) w2 <|
  rSkip) rRet))))
def d315 : DF := .mk [w0] (resT rd2 resNil) c315
def c316 : Run :=
  (rSeq (rO (oMove (rdC (.int 3 (.ofNat 0)))) w2 <|
  rSkip) (rSeq (rSeq (rO (oMove rd0) wL0 <|
  rO (oI ibGeq lo0 (rdC (.int 7 (.ofNat 4294967296)))) w4 <|
  rSkip) (rCond rd4 (rSeq (rO (oMove rd0) wL0 <|
  rO (oSh ibShr lo0 (rdC (.int 7 (.ofNat 32)))) wL0 <|
  rO (oMove lo0) w0 <|
  rSkip) (rO (oMove (rdC (.int 3 (.ofNat 32)))) w2 <|
  rSkip)) rSkip)) (rSeq (rSeq (rO (oMove rd0) wL0 <|
  rO (oI ibGeq lo0 (rdC (.int 7 (.ofNat 65536)))) w8 <|
  rSkip) (rCond rd8 (rSeq (rO (oMove rd0) wL0 <|
  rO (oSh ibShr lo0 (rdC (.int 7 (.ofNat 16)))) wL0 <|
  rO (oMove lo0) w0 <|
  rSkip) (rO (oMove rd2) wL0 <|
  rO (oI ibAdd lo0 (rdC (.int 3 (.ofNat 16)))) wL0 <|
  rO (oMove lo0) w2 <|
  rSkip)) rSkip)) (rSeq (rSeq (rO (oMove rd0) wL0 <|
  rO (oI ibGeq lo0 (rdC (.int 7 (.ofNat 256)))) w14 <|
  rSkip) (rCond rd14 (rSeq (rO (oMove rd0) wL0 <|
  rO (oSh ibShr lo0 (rdC (.int 7 (.ofNat 8)))) wL0 <|
  rO (oMove lo0) w0 <|
  rSkip) (rO (oMove rd2) wL0 <|
  rO (oI ibAdd lo0 (rdC (.int 3 (.ofNat 8)))) wL0 <|
  rO (oMove lo0) w2 <|
  rSkip)) rSkip)) (rSeq (rO (oMove rd2) wL0 <|
  rO (oMove rd0) wL0 <|
  rO (oConv 4 lo0) wL0 <|
  rO (oIndexS (rdC (.str 256 1013866857139168856493015739252390649739422828853819106890363778118420553376247557433637691341895324351018602695588957474325319502760499485336098898398377509666851054660423406800006203933793007272033180812049178612605246075062580585469430410618860250057463399279570354286669047577758927328864388992123306212451509403152394148136105363817402562688186708175358218852349079190158732807302672745370040257219644697201681238697346923541678507645485296520536209706771857694240900605172937619415410180424934769249448772944216470541052485265558808433676546390051204254346932932316488017972311616136051587427851453983453479168)) lo0) wL0 <|
  rO (oConv 3 lo0) wL0 <|
  rO (oI ibAdd lo4 lo0) wL0 <|
  rO (oMove lo0) w2 <|
  rSkip) rRet)))))
def d316 : DF := .mk [w0] (resT rd2 resNil) c316
def c319 : Run :=
  (rSeq (rO (oAlloc (mkCells [(.oth 1 0 [] []), (.int 3 (.ofNat 0))])) w4 <|
  rO (oMove (rdC (.bool false))) w5 <|
  rSkip) (rSeq (rO (oAlloc (mkCells [(.oth 1 0 [] []), (.int 3 (.ofNat 0))])) w6 <|
  rSkip) (rSeq (rO (oMove rd0) wL0 <|
  rO (oMove rd1) wL0 <|
  rCall 175 [lo1, lo0] wL0 <|
  rO (oMove lo0) w7 <|
  rSkip) (rSeq (rSeq (rO (oMove rd7) wL0 <|
  rO (oI ibLss lo0 (rdC (.int 3 (.ofNat 0)))) w12 <|
  rSkip) (rCond rd12 (rSeq (rO (oLoadN 2 rd6) wL0 <|
  rO (oStoreN 2 rd4 lo0) wN <|
  rO (oMove (rdC (.bool false))) w5 <|
  rSkip) rRet) rSkip)) (rSeq (rO (oMove rd0) wL0 <|
  rO (oMove rd7) wL0 <|
  rO (oIndexAddrV 2 lo1 lo0) wL0 <|
  rO (oLoadN 2 lo0) wL0 <|
  rO (oStoreN 2 rd4 lo0) wN <|
  rO (oMove (rdC (.bool true))) w5 <|
  rSkip) rRet)))))
def d319 : DF := .mk [w0, w1] (resN 2 rd4 (resT rd5 resNil)) c319
def c320 : Run :=
  (rSeq (rO (oBox rd0) w1 <|
  rO (oMove (rdC (.bool false))) w2 <|
  rSkip) (rSeq (rO (oLoadN 2 rd1) wL0 <|
  rCall 247 [lo0] wL0 <|
  rO (oI ibNeq lo0 (rdC (.int 3 (.ofNat 0)))) wL0 <|
  rO (oMove lo0) w2 <|
  rSkip) rRet))
def d320 : DF := .mk [w0] (resT rd2 resNil) c320
def c321 : Run :=
  (rSeq (rO (oBox rd0) w1 <|
  rO (oAlloc (mkCells [(.oth 1 0 [] []), (.int 3 (.ofNat 0))])) w2 <|
  rSkip) (rSeq (rO (oFieldAddr 1 rd1) wL0 <|
  rO (oLoad1 lo0) wL0 <|
  rO (oBuild [(.oth 1 0 [] []), (.int 3 (.ofNat 0))] [(1, 1, lo0)]) wL0 <|
  rO (oAlloc (mkCells [(.oth 1 0 [] []), (.int 3 (.ofNat 0))])) w3 <|
  rO (oStoreN 2 rd3 lo0) wN <|
  rSkip) (rSeq (rSeq (rO (oFieldAddr 0 rd1) wL0 <|
  rO (oLoad1 lo0) w10 <|
  rO (oLenV rd10) w11 <|
  rO (oMove (rdC (.int 3 (.ofNat 0)))) w12 <|
  rSkip) (rBlock 0 (rLoop (rSeq (rO (oI ibLss rd12 rd11) w13 <|
  rSkip) (rSeq (rCond rd13 rSkip (rExit 0)) (rSeq (rBlock 1 (rSeq (rO (oIndexAddrV 2 rd10 rd12) wL0 <|
  rO (oLoadN 2 lo0) wL0 <|
  rO (oAlloc (mkCells [(.str 0 0), (.oth 1 0 [] [])])) w5 <|
  rO (oStoreN 2 rd5 lo0) wN <|
  rSkip) (rO (oFieldAddr 0 rd3) wL0 <|
  rO (oLoad1 lo0) wL0 <|
  rO (oFieldAddr 0 rd5) wL0 <|
  rO (oLoad1 lo0) wL0 <|
  rO (oFieldAddr 1 rd5) wL0 <|
  rO (oLoad1 lo0) wL0 <|
  rCall 40 [lo0] wL0 <|
  rChk (oLoad1 lo4) lo3 <|
  rChk (oLoad1 lo6) lo5 <|
  rO (oBuild [(.str 0 0), (.oth 1 0 [] [])] [(0, 1, lo3), (1, 1, lo0)]) wL0 <|
  rO (oBuildSlice 1 [(.str 0 0), (.oth 1 0 [] [])] [(0, 2, lo0)]) wL0 <|
  rO (oAppend 2 lo7 lo0) wL0 <|
  rO (oFieldAddr 0 rd3) wL0 <|
  rO (oStore1 lo0 lo1) wN <|
  rSkip))) (rO (oI ibAdd rd12 (rdC (.int 3 (.ofNat 1)))) wL0 <|
  rO (oMove lo0) w12 <|
  rSkip))))))) (rSeq (rO (oLoadN 2 rd3) wL0 <|
  rO (oStoreN 2 rd2 lo0) wN <|
  rSkip) rRet))))
def d321 : DF := .mk [w0] (resN 2 rd2 resNil) c321
def c322 : Run :=
  (rSeq (rO (oBox rd1) w3 <|
  rO (oMove (rdC (.int 3 (.ofNat 0)))) w4 <|
  rO (oMove (rdC (.int 3 (.ofNat 0)))) w5 <|
  rSkip) (rSeq (rO (oLoadN 2 rd3) wL0 <|
  rCall 215 [lo0] wL0 <|
  rO (oMove lo0) wL0 <|
  rO (oExtract 0 lo0) wL0 <|
  rO (oExtract 1 lo1) wL0 <|
  rO (oStoreN 2 rd3 lo1) wN <|
  rSkip) (rSeq (rO (oMove rd0) wL0 <|
  rO (oNilCheck lo0) wL0 <|
  rO (oFieldAddr 0 lo0) wL0 <|
  rO (oFieldAddr 0 lo0) wL0 <|
  rO (oLoad1 lo0) wL0 <|
  rO (oLenV lo0) wL0 <|
  rO (oMove lo0) w6 <|
  rSkip) (rSeq (rSeq (rO (oFieldAddr 0 rd3) wL0 <|
  rO (oLoad1 lo0) wL0 <|
  rO (oLenV lo0) w22 <|
  rO (oMove (rdC (.int 3 (.ofNat 0)))) w23 <|
  rSkip) (rBlock 0 (rLoop (rSeq (rO (oI ibLss rd23 rd22) w24 <|
  rSkip) (rSeq (rCond rd24 rSkip (rExit 0)) (rSeq (rBlock 1 (rSeq (rO (oMove rd23) wL0 <|
  rO (oMove lo0) w7 <|
  rSkip) (rSeq (rO (oFieldAddr 0 rd3) wL0 <|
  rO (oLoad1 lo0) wL0 <|
  rO (oMove rd7) wL0 <|
  rO (oIndexAddrV 2 lo1 lo0) wL0 <|
  rO (oFieldAddr 1 lo0) wL0 <|
  rO (oLoad1 lo0) wL0 <|
  rO (oLenV lo0) w32 <|
  rO (oMove (rdC (.int 3 (.ofNat 0)))) w33 <|
  rSkip) (rBlock 2 (rLoop (rSeq (rO (oI ibLss rd33 rd32) w34 <|
  rSkip) (rSeq (rCond rd34 rSkip (rExit 2)) (rSeq (rBlock 3 (rSeq (rO (oMove rd33) wL0 <|
  rO (oMove lo0) w8 <|
  rSkip) (rO (oFieldAddr 0 rd3) wL0 <|
  rO (oLoad1 lo0) wL0 <|
  rO (oMove rd7) wL0 <|
  rO (oIndexAddrV 2 lo1 lo0) wL0 <|
  rO (oFieldAddr 1 lo0) wL0 <|
  rO (oLoad1 lo0) wL0 <|
  rO (oMove rd8) wL0 <|
  rO (oIndexAddrV 1 lo1 lo0) wL0 <|
  rO (oLoad1 lo0) wL0 <|
  rO (oMove rd6) wL0 <|
  rO (oI ibAdd lo1 lo0) wL0 <|
  rO (oIndexAddrV 1 lo5 lo4) wL0 <|
  rO (oStore1 lo0 lo1) wN <|
  rSkip))) (rO (oI ibAdd rd33 (rdC (.int 3 (.ofNat 1)))) wL0 <|
  rO (oMove lo0) w33 <|
  rSkip))))))))) (rO (oI ibAdd rd23 (rdC (.int 3 (.ofNat 1)))) wL0 <|
  rO (oMove lo0) w23 <|
  rSkip))))))) (rSeq (rO (oMove rd0) wL0 <|
  rO (oFieldAddr 0 rd3) wL0 <|
  rO (oLoad1 lo0) wL0 <|
  rCall 324 [lo2, lo0] wL0 <|
  rO (oExtract 0 lo0) wL0 <|
  rO (oExtract 1 lo1) wL0 <|
  rO (oMove lo1) w4 <|
  rO (oMove lo0) w5 <|
  rSkip) rRet)))))
def d322 : DF := .mk [w0, w1] (resT rd4 (resT rd5 resNil)) c322
def c323 : Run :=
  (rSeq (rO (oBox rd0) w2 <|
  rO (oAlloc (mkCells [(.oth 1 0 [] []), (.int 3 (.ofNat 0))])) w4 <|
  rO (oMove (rdC (.int 3 (.ofNat 0)))) w5 <|
  rSkip) (rSeq (rO (oLoadN 2 rd2) wL0 <|
  rO (oMove rd1) wL0 <|
  rCall 350 [lo1, lo0] wL0 <|
  rO (oMove lo0) wL0 <|
  rO (oExtract 0 lo0) wL0 <|
  rO (oExtract 1 lo1) wL0 <|
  rO (oMove lo1) w6 <|
  rO (oMove lo0) w7 <|
  rSkip) (rSeq (rSeq (rO (oMove rd7) wL0 <|
  rO (oI ibNeq lo0 (rdC (.int 3 (.ofNat 0)))) w15 <|
  rSkip) (rCond rd15 (rSeq (rO (oBuild [(.oth 1 0 [] []), (.int 3 (.ofNat 0))] []) wL0 <|
  rO (oMove rd7) wL0 <|
  rO (oStoreN 2 rd4 lo1) wN <|
  rO (oMove lo0) w5 <|
  rSkip) rRet) rSkip)) (rSeq (rO (oFieldAddr 0 rd2) wL0 <|
  rO (oLoad1 lo0) wL0 <|
  rO (oMove rd6) wL0 <|
  rCall 351 [lo1, lo0] wL0 <|
  rO (oStoreN 2 rd4 lo0) wN <|
  rO (oMove (rdC (.int 3 (.ofNat 0)))) w5 <|
  rSkip) rRet))))
def d323 : DF := .mk [w0, w1] (resN 2 rd4 (resT rd5 resNil)) c323
def c324 : Run :=
  (rSeq (rO (oMove (rdC (.int 3 (.ofNat 0)))) w4 <|
  rO (oMove (rdC (.int 3 (.ofNat 0)))) w5 <|
  rSkip) (rSeq (rSeq (rO (oMove rd0) wL0 <|
  rO (oNilCheck lo0) wL0 <|
  rO (oFieldAddr 0 lo0) wL0 <|
  rO (oFieldAddr 0 lo0) wL0 <|
  rO (oLoad1 lo0) wL0 <|
  rO (oLenV lo0) wL0 <|
  rO (oMove rd1) wL0 <|
  rO (oLenV lo0) wL0 <|
  rO (oI ibAdd lo2 lo0) wL0 <|
  rO (oI ibGtr lo0 (rdC (.int 3 (.ofNat 200000)))) w15 <|
  rSkip) (rCond rd15 (rSeq (rO (oMove (rdC (.int 3 (.ofNat 0)))) w4 <|
  rO (oMove (rdC (.int 3 (.ofNat 12)))) w5 <|
  rSkip) rRet) rSkip)) (rSeq (rO (oMove rd0) wL0 <|
  rO (oMove rd0) wL0 <|
  rO (oNilCheck lo0) wL0 <|
  rO (oFieldAddr 0 lo0) wL0 <|
  rO (oFieldAddr 0 lo0) wL0 <|
  rO (oLoad1 lo0) wL0 <|
  rO (oMove rd1) wL0 <|
  rO (oAppend 2 lo1 lo0) wL0 <|
  rO (oNilCheck lo7) wL0 <|
  rO (oFieldAddr 0 lo0) wL0 <|
  rO (oFieldAddr 0 lo0) wL0 <|
  rO (oStore1 lo0 lo3) wN <|
  rSkip) (rSeq (rO (oMove rd0) wL0 <|
  rO (oNilCheck lo0) wL0 <|
  rO (oFieldAddr 0 lo0) wL0 <|
  rO (oFieldAddr 0 lo0) wL0 <|
  rO (oLoad1 lo0) wL0 <|
  rO (oLenV lo0) wL0 <|
  rO (oMove rd1) wL0 <|
  rO (oLenV lo0) wL0 <|
  rO (oI ibSub lo2 lo0) wL0 <|
  rO (oMove lo0) w4 <|
  rO (oMove (rdC (.int 3 (.ofNat 0)))) w5 <|
  rSkip) rRet))))
def d324 : DF := .mk [w0, w1] (resT rd4 (resT rd5 resNil)) c324
def c325 : Run :=
  (rSeq (rO (oBox rd2) w5 <|
  rO (oMove (rdC (.int 3 (.ofNat 0)))) w6 <|
  rO (oMove (rdC (.bool false))) w7 <|
  rO (oMove (rdC (.int 3 (.ofNat 0)))) w8 <|
  rSkip) (rSeq (rO (oMove (rdC (.oth 1 0 [] []))) w9 <|
  rSkip) (rSeq (rSeq (rO (oFieldAddr 3 rd5) wL0 <|
  rO (oLoad1 lo0) w20 <|
  rO (oLenV rd20) w21 <|
  rO (oMove (rdC (.int 3 (.ofNat 0)))) w22 <|
  rSkip) (rBlock 0 (rLoop (rSeq (rO (oI ibLss rd22 rd21) w23 <|
  rSkip) (rSeq (rCond rd23 rSkip (rExit 0)) (rSeq (rBlock 1 (rSeq (rO (oIndexAddrV 1 rd20 rd22) wL0 <|
  rO (oLoad1 lo0) wL0 <|
  rO (oMove lo0) w11 <|
  rSkip) (rSeq (rO (oMove rd0) wL0 <|
  rO (oMove rd1) wL0 <|
  rO (oNilCheck lo0) wL0 <|
  rO (oFieldAddr 2 lo0) wL0 <|
  rO (oLoad1 lo0) wL0 <|
  rO (oMove rd11) wL0 <|
  rO (oIndexAddrV 1 lo1 lo0) wL0 <|
  rO (oLoad1 lo0) wL0 <|
  rCall 352 [lo7, lo0] wL0 <|
  rO (oMove lo0) wL0 <|
  rO (oExtract 0 lo0) wL0 <|
  rO (oExtract 1 lo1) wL0 <|
  rO (oAlloc (mkCells [(.oth 1 0 [] []), (.int 3 (.ofNat 0))])) w12 <|
  rO (oStoreN 2 rd12 lo1) wN <|
  rO (oMove lo0) w13 <|
  rSkip) (rSeq (rSeq (rO (oMove rd13) wL0 <|
  rO (oI ibNeq lo0 (rdC (.int 3 (.ofNat 0)))) w39 <|
  rSkip) (rCond rd39 (rSeq (rO (oMove rd13) wL0 <|
  rO (oMove (rdC (.int 3 (.ofNat 0)))) w6 <|
  rO (oMove (rdC (.bool false))) w7 <|
  rO (oMove lo0) w8 <|
  rSkip) rRet) rSkip)) (rO (oMove rd9) wL0 <|
  rO (oLoadN 2 rd12) wL0 <|
  rO (oBuildSlice 1 [(.oth 1 0 [] []), (.int 3 (.ofNat 0))] [(0, 2, lo0)]) wL0 <|
  rO (oAppend 2 lo2 lo0) wL0 <|
  rO (oMove lo0) w9 <|
  rSkip))))) (rO (oI ibAdd rd22 (rdC (.int 3 (.ofNat 1)))) wL0 <|
  rO (oMove lo0) w22 <|
  rSkip))))))) (rSeq (rO (oMove rd0) wL0 <|
  rO (oMkFn 353 [lo0] []) wL0 <|
  rO (oMove lo0) w14 <|
  rSkip) (rSeq (rO (oMove rd0) wL0 <|
  rO (oMove rd14) wL0 <|
  rO (oFieldAddr 1 rd5) wL0 <|
  rO (oLoad1 lo0) wL0 <|
  rCallV lo2 [lo0] wL0 <|
  rO (oMove rd9) wL0 <|
  rCall 354 [lo5, lo1, lo0] wL0 <|
  rO (oMove lo0) w15 <|
  rSkip) (rSeq (rBlock 2 (rSeq (rO (oMove rd15) wL0 <|
  rO (oI ibLss lo0 (rdC (.int 3 (.ofNat 0)))) wL0 <|
  rO (oMove lo0) w55 <|
  rSkip) (rCond rd55 (rSeq (rO (oMove rd0) wL0 <|
  rO (oMove rd14) wL0 <|
  rO (oFieldAddr 1 rd5) wL0 <|
  rO (oLoad1 lo0) wL0 <|
  rCallV lo2 [lo0] wL0 <|
  rO (oMove rd9) wL0 <|
  rCall 216 [lo5, lo1, lo0] wL0 <|
  rO (oMove (rdC (.int 3 (.ofNat 0)))) w6 <|
  rO (oMove (rdC (.bool true))) w7 <|
  rO (oMove lo0) w8 <|
  rSkip) rRet) (rSeq (rO (oFieldAddr 0 rd5) wL0 <|
  rO (oLoad1 lo0) wL0 <|
  rO (oI ibEql lo0 (rdC (.int 3 (.ofNat 5)))) wL0 <|
  rO (oMove lo0) w65 <|
  rSkip) (rCond rd65 (rSeq (rO (oMove rd15) wL0 <|
  rO (oNeg lo0) wL0 <|
  rO (oI ibSub lo0 (rdC (.int 3 (.ofNat 1)))) wL0 <|
  rO (oMove lo0) w6 <|
  rO (oMove (rdC (.bool false))) w7 <|
  rO (oMove (rdC (.int 3 (.ofNat 0)))) w8 <|
  rSkip) rRet) (rSeq (rO (oMove rd0) wL0 <|
  rO (oNilCheck lo0) wL0 <|
  rO (oFieldAddr 0 lo0) wL0 <|
  rO (oFieldAddr 1 lo0) wL0 <|
  rO (oLoad1 lo0) wL0 <|
  rO (oMove rd15) wL0 <|
  rO (oIndexAddrV 5 lo1 lo0) wL0 <|
  rO (oFieldAddr 3 lo0) wL0 <|
  rO (oLoad1 lo0) wL0 <|
  rO (oNot lo0) wL0 <|
  rO (oMove lo0) wL0 <|
  rG lo0 false wL0 (rO (oMove rd0) wL0) <|
  rG lo1 false wL0 (rO (oMove rd0) wL0) <|
  rG lo2 false wL0 (rO (oNilCheck lo0) wL0) <|
  rG lo3 false wL0 (rO (oFieldAddr 0 lo0) wL0) <|
  rG lo4 false wL0 (rO (oFieldAddr 1 lo0) wL0) <|
  rG lo5 false wL0 (rO (oLoad1 lo0) wL0) <|
  rG lo6 false wL0 (rO (oMove rd15) wL0) <|
  rG lo7 false wL0 (rO (oIndexAddrV 5 lo1 lo0) wL0) <|
  rG lo8 false wL0 (rO (oFieldAddr 4 lo0) wL0) <|
  rG lo9 false wL0 (rO (oLoad1 lo0) wL0) <|
  rG lo10 false wL0 (rCall 355 [lo9, lo0] wL0) <|
  rG lo11 false wL0 (rO (oNot lo0) wL0) <|
  rO (oPick lo12 (rdC (.bool true)) lo0) wL0 <|
  rO (oMove lo0) w72 <|
  rSkip) (rCond rd72 (rSeq (rO (oMove (rdC (.int 3 (.ofNat 0)))) w6 <|
  rO (oMove (rdC (.bool false))) w7 <|
  rO (oMove (rdC (.int 3 (.ofNat 8)))) w8 <|
  rSkip) rRet) rSkip))))))) (rSeq (rO (oMove rd0) wL0 <|
  rO (oMove rd15) wL0 <|
  rO (oNeg lo0) wL0 <|
  rO (oI ibSub lo0 (rdC (.int 3 (.ofNat 1)))) wL0 <|
  rCall 352 [lo3, lo0] wL0 <|
  rO (oMove lo0) wL0 <|
  rO (oExtract 0 lo0) wL0 <|
  rO (oExtract 1 lo1) wL0 <|
  rO (oAlloc (mkCells [(.oth 1 0 [] []), (.int 3 (.ofNat 0))])) w16 <|
  rO (oStoreN 2 rd16 lo1) wN <|
  rO (oMove lo0) w17 <|
  rSkip) (rSeq (rSeq (rO (oMove rd17) wL0 <|
  rO (oI ibNeq lo0 (rdC (.int 3 (.ofNat 0)))) w106 <|
  rSkip) (rCond rd106 (rSeq (rO (oMove rd17) wL0 <|
  rO (oMove (rdC (.int 3 (.ofNat 0)))) w6 <|
  rO (oMove (rdC (.bool false))) w7 <|
  rO (oMove lo0) w8 <|
  rSkip) rRet) rSkip)) (rSeq (rO (oMove rd0) wL0 <|
  rO (oLoadN 2 rd16) wL0 <|
  rCall 322 [lo1, lo0] wL0 <|
  rO (oMove lo0) wL0 <|
  rO (oExtract 0 lo0) wL0 <|
  rO (oExtract 1 lo1) wL0 <|
  rO (oMove lo1) w18 <|
  rO (oMove lo0) w17 <|
  rSkip) (rSeq (rO (oMove rd18) wL0 <|
  rO (oMove rd17) wL0 <|
  rO (oMove lo1) w6 <|
  rO (oMove (rdC (.bool false))) w7 <|
  rO (oMove lo0) w8 <|
  rSkip) rRet))))))))))
def d325 : DF := .mk [w0, w1, w2] (resT rd6 (resT rd7 (resT rd8 resNil))) c325
def c332 : Run :=
  (rSeq (rO (oBox rd0) w2 <|
  rO (oMove (rdC (.bool false))) w3 <|
  rSkip) (rSeq (rO (oLoad1 rd1) wL0 <|
  rO (oLoadN 4 rd2) wL0 <|
  rCallV lo1 [lo0] wL0 <|
  rO (oNot lo0) wL0 <|
  rO (oMove lo0) w3 <|
  rSkip) rRet))
def d332 : DF := .mk [w0, w1] (resT rd3 resNil) c332
def c333 : Run :=
  (rSeq (rO (oMove (rdC (.bool false))) w3 <|
  rSkip) (rSeq (rO (oLoad1 rd1) wL0 <|
  rO (oMove rd0) wL0 <|
  rCallV lo1 [lo0] wL0 <|
  rO (oNot lo0) wL0 <|
  rO (oMove lo0) w3 <|
  rSkip) rRet))
def d333 : DF := .mk [w0, w1] (resT rd3 resNil) c333
def c334 : Run :=
  (rSeq (rO (oMove (rdC (.bool false))) w3 <|
  rSkip) (rSeq (rO (oLoad1 rd1) wL0 <|
  rO (oMove rd0) wL0 <|
  rO (oIndexAddrV 1 lo1 lo0) wL0 <|
  rO (oLoad1 lo0) wL0 <|
  rO (oMove lo0) w3 <|
  rSkip) rRet))
def d334 : DF := .mk [w0, w1] (resT rd3 resNil) c334
def c335 : Run :=
  (rSeq (rO (oMove (rdC (.str 0 0))) w4 <|
  rSkip) (rSeq (rBlock 0 (rLoop (rSeq (rSeq (rO (oMove rd0) wL0 <|
  rO (oLenS lo0) wL0 <|
  rO (oI ibGtr lo0 (rdC (.int 3 (.ofNat 0)))) wL0 <|
  rO (oMove lo0) wL0 <|
  rG lo0 true wL0 (rO (oMove rd0) wL0) <|
  rG lo1 true wL0 (rO (oIndexS lo0 (rdC (.int 3 (.ofNat 0)))) wL0) <|
  rG lo2 true wL0 (rO (oMove rd1) wL0) <|
  rG lo3 true wL0 (rO (oI ibEql lo1 lo0) wL0) <|
  rO (oPick lo4 lo0 (rdC (.bool false))) w13 <|
  rSkip) (rCond rd13 rSkip (rExit 0))) (rBlock 1 (rO (oMove rd0) wL0 <|
  rO (oSliceS lo0 (some (rdC (.int 3 (.ofNat 1)))) none) wL0 <|
  rO (oMove lo0) w0 <|
  rSkip))))) (rSeq (rO (oMove rd0) wL0 <|
  rO (oMove lo0) w4 <|
  rSkip) rRet)))
def d335 : DF := .mk [w0, w1] (resT rd4 resNil) c335
def c336 : Run :=
  (rSeq (rO (oMove (rdC (.str 0 0))) w4 <|
  rSkip) (rSeq (rBlock 0 (rLoop (rSeq (rSeq (rO (oMove rd0) wL0 <|
  rO (oLenS lo0) wL0 <|
  rO (oI ibGtr lo0 (rdC (.int 3 (.ofNat 0)))) wL0 <|
  rO (oMove lo0) wL0 <|
  rG lo0 true wL0 (rO (oMove rd0) wL0) <|
  rG lo1 true wL0 (rO (oMove rd0) wL0) <|
  rG lo2 true wL0 (rO (oLenS lo0) wL0) <|
  rG lo3 true wL0 (rO (oI ibSub lo0 (rdC (.int 3 (.ofNat 1)))) wL0) <|
  rG lo4 true wL0 (rO (oIndexS lo3 lo0) wL0) <|
  rG lo5 true wL0 (rO (oMove rd1) wL0) <|
  rG lo6 true wL0 (rO (oI ibEql lo1 lo0) wL0) <|
  rO (oPick lo7 lo0 (rdC (.bool false))) w16 <|
  rSkip) (rCond rd16 rSkip (rExit 0))) (rBlock 1 (rO (oMove rd0) wL0 <|
  rO (oMove rd0) wL0 <|
  rO (oLenS lo0) wL0 <|
  rO (oI ibSub lo0 (rdC (.int 3 (.ofNat 1)))) wL0 <|
  rO (oSliceS lo3 none (some lo0)) wL0 <|
  rO (oMove lo0) w0 <|
  rSkip))))) (rSeq (rO (oMove rd0) wL0 <|
  rO (oMove lo0) w4 <|
  rSkip) rRet)))
def d336 : DF := .mk [w0, w1] (resT rd4 resNil) c336
def c337 : Run :=
  (rSeq (rO (oAlloc (mkCells [(.bool false), (.bool false), (.bool false), (.bool false), (.bool false), (.bool false), (.bool false), (.bool false), (.bool false), (.bool false), (.bool false), (.bool false), (.bool false), (.bool false), (.bool false), (.bool false), (.bool false), (.bool false), (.bool false), (.bool false), (.bool false), (.bool false), (.bool false), (.bool false), (.bool false), (.bool false), (.bool false), (.bool false), (.bool false), (.bool false), (.bool false), (.bool false), (.bool false), (.bool false), (.bool false), (.bool false), (.bool false), (.bool false), (.bool false), (.bool false), (.bool false), (.bool false), (.bool false), (.bool false), (.bool false), (.bool false), (.bool false), (.bool false), (.bool false), (.bool false), (.bool false), (.bool false), (.bool false), (.bool false), (.bool false), (.bool false), (.bool false), (.bool false), (.bool false), (.bool false), (.bool false), (.bool false), (.bool false), (.bool false), (.bool false), (.bool false), (.bool false), (.bool false), (.bool false), (.bool false), (.bool false), (.bool false), (.bool false), (.bool false), (.bool false), (.bool false), (.bool false), (.bool false), (.bool false), (.bool false), (.bool false), (.bool false), (.bool false), (.bool false), (.bool false), (.bool false), (.bool false), (.bool false), (.bool false), (.bool false), (.bool false), (.bool false), (.bool false), (.bool false), (.bool false), (.bool false), (.bool false), (.bool false), (.bool false), (.bool false), (.bool false), (.bool false), (.bool false), (.bool false), (.bool false), (.bool false), (.bool false), (.bool false), (.bool false), (.bool false), (.bool false), (.bool false), (.bool false), (.bool false), (.bool false), (.bool false), (.bool false), (.bool false), (.bool false), (.bool false), (.bool false), (.bool false), (.bool false), (.bool false), (.bool false), (.bool false), (.bool false), (.bool false), (.bool false), (.bool false), (.bool false), (.bool false), (.bool false), (.bool false), (.bool false), (.bool false), (.bool false), (.bool false), (.bool false), (.bool false), (.bool false), (.bool false), (.bool false), (.bool false), (.bool false), (.bool false), (.bool false), (.bool false), (.bool false), (.bool false), (.bool false), (.bool false), (.bool false), (.bool false), (.bool false), (.bool false), (.bool false), (.bool false), (.bool false), (.bool false), (.bool false), (.bool false), (.bool false), (.bool false), (.bool false), (.bool false), (.bool false), (.bool false), (.bool false), (.bool false), (.bool false), (.bool false), (.bool false), (.bool false), (.bool false), (.bool false), (.bool false), (.bool false), (.bool false), (.bool false), (.bool false), (.bool false), (.bool false), (.bool false), (.bool false), (.bool false), (.bool false), (.bool false), (.bool false), (.bool false), (.bool false), (.bool false), (.bool false), (.bool false), (.bool false), (.bool false), (.bool false), (.bool false), (.bool false), (.bool false), (.bool false), (.bool false), (.bool false), (.bool false), (.bool false), (.bool false), (.bool false), (.bool false), (.bool false), (.bool false), (.bool false), (.bool false), (.bool false), (.bool false), (.bool false), (.bool false), (.bool false), (.bool false), (.bool false), (.bool false), (.bool false), (.bool false), (.bool false), (.bool false), (.bool false), (.bool false), (.bool false), (.bool false), (.bool false), (.bool false), (.bool false), (.bool false), (.bool false), (.bool false), (.bool false), (.bool false), (.bool false), (.bool false), (.bool false), (.bool false), (.bool false), (.bool false), (.bool false), (.bool false), (.bool false), (.bool false), (.bool false), (.bool false), (.bool false), (.bool false), (.bool false), (.bool false), (.bool false), (.bool false), (.bool false), (.bool false)])) w2 <|
  rO (oMove (rdC (.bool false))) w3 <|
  rSkip) (rSeq (rSeq (rO (oMove (rdC (.int 3 (.ofNat 0)))) w4 <|
  rSkip) (rBlock 0 (rLoop (rSeq (rSeq (rO (oMove rd4) wL0 <|
  rO (oMove rd0) wL0 <|
  rO (oLenS lo0) wL0 <|
  rO (oI ibLss lo2 lo0) w9 <|
  rSkip) (rCond rd9 rSkip (rExit 0))) (rSeq (rBlock 1 (rSeq (rO (oMove rd0) wL0 <|
  rO (oMove rd4) wL0 <|
  rO (oIndexS lo1 lo0) wL0 <|
  rO (oMove lo0) w5 <|
  rSkip) (rSeq (rSeq (rO (oMove rd5) wL0 <|
  rO (oI ibGeq lo0 (rdC (.int 4 (.ofNat 128)))) w16 <|
  rSkip) (rCond rd16 (rSeq (rO (oLoadN 256 rd2) wL0 <|
  rO (oStoreN 256 rd2 lo0) wN <|
  rO (oMove (rdC (.bool false))) w3 <|
  rSkip) rRet) rSkip)) (rO (oMove rd5) wL0 <|
  rO (oIndexAddrA 256 1 rd2 lo0) wL0 <|
  rO (oStore1 lo0 (rdC (.bool true))) wN <|
  rSkip)))) (rO (oMove rd4) wL0 <|
  rO (oI ibAdd lo0 (rdC (.int 3 (.ofNat 1)))) wL0 <|
  rO (oMove lo0) w4 <|
  rSkip)))))) (rSeq (rO (oLoadN 256 rd2) wL0 <|
  rO (oStoreN 256 rd2 lo0) wN <|
  rO (oMove (rdC (.bool true))) w3 <|
  rSkip) rRet)))
def d337 : DF := .mk [w0] (resN 256 rd2 (resT rd3 resNil)) c337
def c338 : Run :=
  (rSeq (rO (oMove (rdC (.str 0 0))) w4 <|
  rSkip) (rSeq (rBlock 0 (rLoop (rSeq (rSeq (rO (oMove rd0) wL0 <|
  rO (oLenS lo0) wL0 <|
  rO (oI ibGtr lo0 (rdC (.int 3 (.ofNat 0)))) w7 <|
  rSkip) (rCond rd7 rSkip (rExit 0))) (rBlock 1 (rSeq (rSeq (rO (oMove rd1) wL0 <|
  rO (oMove rd0) wL0 <|
  rO (oIndexS lo0 (rdC (.int 3 (.ofNat 0)))) wL0 <|
  rCall 360 [lo2, lo0] wL0 <|
  rO (oNot lo0) w12 <|
  rSkip) (rCond rd12 (rExit 0) rSkip)) (rO (oMove rd0) wL0 <|
  rO (oSliceS lo0 (some (rdC (.int 3 (.ofNat 1)))) none) wL0 <|
  rO (oMove lo0) w0 <|
  rSkip)))))) (rSeq (rO (oMove rd0) wL0 <|
  rO (oMove lo0) w4 <|
  rSkip) rRet)))
def d338 : DF := .mk [w0, w1] (resT rd4 resNil) c338
def c339 : Run :=
  (rSeq (rO (oMove (rdC (.str 0 0))) w4 <|
  rSkip) (rSeq (rBlock 0 (rLoop (rSeq (rSeq (rO (oMove rd0) wL0 <|
  rO (oLenS lo0) wL0 <|
  rO (oI ibGtr lo0 (rdC (.int 3 (.ofNat 0)))) w7 <|
  rSkip) (rCond rd7 rSkip (rExit 0))) (rBlock 1 (rSeq (rSeq (rO (oMove rd1) wL0 <|
  rO (oMove rd0) wL0 <|
  rO (oMove rd0) wL0 <|
  rO (oLenS lo0) wL0 <|
  rO (oI ibSub lo0 (rdC (.int 3 (.ofNat 1)))) wL0 <|
  rO (oIndexS lo3 lo0) wL0 <|
  rCall 360 [lo5, lo0] wL0 <|
  rO (oNot lo0) w15 <|
  rSkip) (rCond rd15 (rExit 0) rSkip)) (rO (oMove rd0) wL0 <|
  rO (oMove rd0) wL0 <|
  rO (oLenS lo0) wL0 <|
  rO (oI ibSub lo0 (rdC (.int 3 (.ofNat 1)))) wL0 <|
  rO (oSliceS lo3 none (some lo0)) wL0 <|
  rO (oMove lo0) w0 <|
  rSkip)))))) (rSeq (rO (oMove rd0) wL0 <|
  rO (oMove lo0) w4 <|
  rSkip) rRet)))
def d339 : DF := .mk [w0, w1] (resT rd4 resNil) c339
def c340 : Run :=
  (rSeq (rO (oMove (rdC (.str 0 0))) w4 <|
  rSkip) (rSeq (rBlock 0 (rLoop (rSeq (rSeq (rO (oMove rd0) wL0 <|
  rO (oLenS lo0) wL0 <|
  rO (oI ibGtr lo0 (rdC (.int 3 (.ofNat 0)))) w9 <|
  rSkip) (rCond rd9 rSkip (rExit 0))) (rBlock 1 (rSeq (rO (oMove rd0) wL0 <|
  rCall 361 [lo0] wL0 <|
  rO (oMove lo0) wL0 <|
  rO (oExtract 0 lo0) wL0 <|
  rO (oExtract 1 lo1) wL0 <|
  rO (oMove lo1) w5 <|
  rO (oMove lo0) w6 <|
  rSkip) (rSeq (rSeq (rO (oMove rd1) wL0 <|
  rO (oMove rd5) wL0 <|
  rCall 362 [lo1, lo0] wL0 <|
  rO (oNot lo0) w18 <|
  rSkip) (rCond rd18 (rExit 0) rSkip)) (rO (oMove rd0) wL0 <|
  rO (oMove rd6) wL0 <|
  rO (oSliceS lo1 (some lo0) none) wL0 <|
  rO (oMove lo0) w0 <|
  rSkip))))))) (rSeq (rO (oMove rd0) wL0 <|
  rO (oMove lo0) w4 <|
  rSkip) rRet)))
def d340 : DF := .mk [w0, w1] (resT rd4 resNil) c340
def c341 : Run :=
  (rSeq (rO (oMove (rdC (.str 0 0))) w4 <|
  rSkip) (rSeq (rBlock 0 (rLoop (rSeq (rSeq (rO (oMove rd0) wL0 <|
  rO (oLenS lo0) wL0 <|
  rO (oI ibGtr lo0 (rdC (.int 3 (.ofNat 0)))) w9 <|
  rSkip) (rCond rd9 rSkip (rExit 0))) (rBlock 1 (rSeq (rO (oMove rd0) wL0 <|
  rO (oMove rd0) wL0 <|
  rO (oLenS lo0) wL0 <|
  rO (oI ibSub lo0 (rdC (.int 3 (.ofNat 1)))) wL0 <|
  rO (oIndexS lo3 lo0) wL0 <|
  rO (oConv 2 lo0) wL0 <|
  rO (oMove lo0) w5 <|
  rO (oMove (rdC (.int 3 (.ofNat 1)))) w6 <|
  rSkip) (rSeq (rSeq (rO (oMove rd5) wL0 <|
  rO (oI ibGeq lo0 (rdC (.int 2 (.ofNat 128)))) w17 <|
  rSkip) (rCond rd17 (rO (oMove rd0) wL0 <|
  rCall 363 [lo0] wL0 <|
  rO (oMove lo0) wL0 <|
  rO (oExtract 0 lo0) wL0 <|
  rO (oExtract 1 lo1) wL0 <|
  rO (oMove lo1) w5 <|
  rO (oMove lo0) w6 <|
  rSkip) rSkip)) (rSeq (rSeq (rO (oMove rd1) wL0 <|
  rO (oMove rd5) wL0 <|
  rCall 362 [lo1, lo0] wL0 <|
  rO (oNot lo0) w26 <|
  rSkip) (rCond rd26 (rExit 0) rSkip)) (rO (oMove rd0) wL0 <|
  rO (oMove rd0) wL0 <|
  rO (oLenS lo0) wL0 <|
  rO (oMove rd6) wL0 <|
  rO (oI ibSub lo1 lo0) wL0 <|
  rO (oSliceS lo4 none (some lo0)) wL0 <|
  rO (oMove lo0) w0 <|
  rSkip)))))))) (rSeq (rO (oMove rd0) wL0 <|
  rO (oMove lo0) w4 <|
  rSkip) rRet)))
def d341 : DF := .mk [w0, w1] (resT rd4 resNil) c341
def c342 : Run :=
  (rSeq (rO (oBox rd0) w2 <|
  rO (oMove (rdC (.bool false))) w3 <|
  rSkip) (rSeq (rO (oLoad1 rd1) wL0 <|
  rO (oLoadN 2 rd2) wL0 <|
  rCallV lo1 [lo0] wL0 <|
  rO (oNot lo0) wL0 <|
  rO (oMove lo0) w3 <|
  rSkip) rRet))
def d342 : DF := .mk [w0, w1] (resT rd3 resNil) c342
def c343 : Run :=
  (rSeq (rO (oMove (rdC (.bool false))) w3 <|
  rSkip) (rSeq (rO (oLoad1 rd1) wL0 <|
  rO (oMove rd0) wL0 <|
  rCallV lo1 [lo0] wL0 <|
  rO (oNot lo0) wL0 <|
  rO (oMove lo0) w3 <|
  rSkip) rRet))
def d343 : DF := .mk [w0, w1] (resT rd3 resNil) c343
def c344 : Run :=
  (rSeq (rO (oMove rd1) wL0 <|
  rO (oMove lo0) w8 <|
  rSkip) (rBlock 0 (rLoop (rBlock 1 (rSeq (rO (oMove rd8) wL0 <|
  rO (oI ibMul (rdC (.int 3 (.ofNat 2))) lo0) wL0 <|
  rO (oI ibAdd lo0 (rdC (.int 3 (.ofNat 1)))) wL0 <|
  rO (oMove lo0) w9 <|
  rSkip) (rSeq (rSeq (rO (oMove rd9) wL0 <|
  rO (oMove rd2) wL0 <|
  rO (oI ibGeq lo1 lo0) w16 <|
  rSkip) (rCond rd16 (rExit 0) rSkip)) (rSeq (rSeq (rO (oMove rd9) wL0 <|
  rO (oI ibAdd lo0 (rdC (.int 3 (.ofNat 1)))) wL0 <|
  rO (oMove rd2) wL0 <|
  rO (oI ibLss lo1 lo0) wL0 <|
  rO (oMove lo0) wL0 <|
  rG lo0 true wL0 (rO (oMove rd0) wL0) <|
  rG lo1 true wL0 (rO (oMove rd3) wL0) <|
  rG lo2 true wL0 (rO (oMove rd9) wL0) <|
  rG lo3 true wL0 (rO (oI ibAdd lo1 lo0) wL0) <|
  rG lo4 true wL0 (rO (oIndexAddrV 1 lo3 lo0) wL0) <|
  rG lo5 true wL0 (rO (oLoad1 lo0) wL0) <|
  rG lo6 true wL0 (rO (oMove rd0) wL0) <|
  rG lo7 true wL0 (rO (oMove rd3) wL0) <|
  rG lo8 true wL0 (rO (oMove rd9) wL0) <|
  rG lo9 true wL0 (rO (oI ibAdd lo1 lo0) wL0) <|
  rG lo10 true wL0 (rO (oI ibAdd lo0 (rdC (.int 3 (.ofNat 1)))) wL0) <|
  rG lo11 true wL0 (rO (oIndexAddrV 1 lo4 lo0) wL0) <|
  rG lo12 true wL0 (rO (oLoad1 lo0) wL0) <|
  rG lo13 true wL0 (rCall 312 [lo7, lo0] wL0) <|
  rO (oPick lo14 lo0 (rdC (.bool false))) w36 <|
  rSkip) (rCond rd36 (rO (oMove rd9) wL0 <|
  rO (oI ibAdd lo0 (rdC (.int 3 (.ofNat 1)))) wL0 <|
  rO (oMove lo0) w9 <|
  rSkip) rSkip)) (rSeq (rSeq (rO (oMove rd0) wL0 <|
  rO (oMove rd3) wL0 <|
  rO (oMove rd8) wL0 <|
  rO (oI ibAdd lo1 lo0) wL0 <|
  rO (oIndexAddrV 1 lo3 lo0) wL0 <|
  rO (oLoad1 lo0) wL0 <|
  rO (oMove rd0) wL0 <|
  rO (oMove rd3) wL0 <|
  rO (oMove rd9) wL0 <|
  rO (oI ibAdd lo1 lo0) wL0 <|
  rO (oIndexAddrV 1 lo3 lo0) wL0 <|
  rO (oLoad1 lo0) wL0 <|
  rCall 312 [lo6, lo0] wL0 <|
  rO (oNot lo0) w52 <|
  rSkip) (rCond rd52 rRet rSkip)) (rSeq (rO (oMove rd0) wL0 <|
  rO (oMove rd3) wL0 <|
  rO (oMove rd8) wL0 <|
  rO (oI ibAdd lo1 lo0) wL0 <|
  rO (oMove rd0) wL0 <|
  rO (oMove rd3) wL0 <|
  rO (oMove rd9) wL0 <|
  rO (oI ibAdd lo1 lo0) wL0 <|
  rO (oMove rd0) wL0 <|
  rO (oMove rd3) wL0 <|
  rO (oMove rd9) wL0 <|
  rO (oI ibAdd lo1 lo0) wL0 <|
  rO (oIndexAddrV 1 lo3 lo0) wL0 <|
  rO (oLoad1 lo0) wL0 <|
  rO (oMove rd0) wL0 <|
  rO (oMove rd3) wL0 <|
  rO (oMove rd8) wL0 <|
  rO (oI ibAdd lo1 lo0) wL0 <|
  rO (oIndexAddrV 1 lo3 lo0) wL0 <|
  rO (oLoad1 lo0) wL0 <|
  rO (oIndexAddrV 1 lo19 lo16) wL0 <|
  rO (oStore1 lo0 lo7) wN <|
  rO (oIndexAddrV 1 lo16 lo13) wL0 <|
  rO (oStore1 lo0 lo2) wN <|
  rSkip) (rO (oMove rd9) wL0 <|
  rO (oMove lo0) w8 <|
  rSkip))))))))))
def d344 : DF := .mk [w0, w1, w2, w3] resNil c344
def c345 : Run :=
  (rSeq (rO (oMove (rdC (.int 7 (.ofNat 0)))) w2 <|
  rSkip) (rSeq (rO (oMove rd0) wL0 <|
  rO (oConv 7 lo0) wL0 <|
  rCall 253 [lo0] wL0 <|
  rO (oSh ibShl (rdC (.int 7 (.ofNat 1))) lo0) wL0 <|
  rO (oMove lo0) w2 <|
  rSkip) rRet))
def d345 : DF := .mk [w0] (resT rd2 resNil) c345
def c346 : Run :=
  (rSeq (rO (oMove (rdC (.int 7 (.ofNat 0)))) w2 <|
  rSkip) (rSeq (rO (oMove rd0) wL0 <|
  rO (oNilCheck lo0) wL0 <|
  rO (oLoad1 lo0) wL0 <|
  rO (oMove rd0) wL0 <|
  rO (oNilCheck lo0) wL0 <|
  rO (oLoad1 lo0) wL0 <|
  rO (oSh ibShl lo0 (rdC (.int 7 (.ofNat 13)))) wL0 <|
  rO (oI (ibNat Nat.xor) lo4 lo0) wL0 <|
  rO (oNilCheck lo7) wL0 <|
  rO (oStore1 lo0 lo1) wN <|
  rSkip) (rSeq (rO (oMove rd0) wL0 <|
  rO (oNilCheck lo0) wL0 <|
  rO (oLoad1 lo0) wL0 <|
  rO (oMove rd0) wL0 <|
  rO (oNilCheck lo0) wL0 <|
  rO (oLoad1 lo0) wL0 <|
  rO (oSh ibShr lo0 (rdC (.int 7 (.ofNat 7)))) wL0 <|
  rO (oI (ibNat Nat.xor) lo4 lo0) wL0 <|
  rO (oNilCheck lo7) wL0 <|
  rO (oStore1 lo0 lo1) wN <|
  rSkip) (rSeq (rO (oMove rd0) wL0 <|
  rO (oNilCheck lo0) wL0 <|
  rO (oLoad1 lo0) wL0 <|
  rO (oMove rd0) wL0 <|
  rO (oNilCheck lo0) wL0 <|
  rO (oLoad1 lo0) wL0 <|
  rO (oSh ibShl lo0 (rdC (.int 7 (.ofNat 17)))) wL0 <|
  rO (oI (ibNat Nat.xor) lo4 lo0) wL0 <|
  rO (oNilCheck lo7) wL0 <|
  rO (oStore1 lo0 lo1) wN <|
  rSkip) (rSeq (rO (oMove rd0) wL0 <|
  rO (oNilCheck lo0) wL0 <|
  rO (oLoad1 lo0) wL0 <|
  rO (oMove lo0) w2 <|
  rSkip) rRet)))))
def d346 : DF := .mk [w0] (resT rd2 resNil) c346
def c347 : Run :=
  (rSeq (rO (oMove (rdC (.int 3 (.ofNat 0)))) w6 <|
  rSkip) (rSeq (rO (oMove rd0) wL0 <|
  rO (oMove rd1) wL0 <|
  rO (oI ibSub lo0 (rdC (.int 3 (.ofNat 1)))) wL0 <|
  rO (oMove rd1) wL0 <|
  rO (oMove rd1) wL0 <|
  rO (oI ibAdd lo0 (rdC (.int 3 (.ofNat 1)))) wL0 <|
  rO (oMove rd2) wL0 <|
  rCall 348 [lo6, lo4, lo3, lo1, lo0] wL0 <|
  rO (oMove lo0) w6 <|
  rSkip) rRet))
def d347 : DF := .mk [w0, w1, w2] (resT rd6 resNil) c347
def c348 : Run :=
  (rSeq (rO (oMove (rdC (.int 3 (.ofNat 0)))) w10 <|
  rSkip) (rSeq (rO (oMove rd0) wL0 <|
  rO (oMove rd1) wL0 <|
  rO (oMove rd2) wL0 <|
  rO (oMove rd4) wL0 <|
  rCall 364 [lo3, lo2, lo1, lo0] wL0 <|
  rO (oMove lo0) wL0 <|
  rO (oExtract 0 lo0) wL0 <|
  rO (oExtract 1 lo1) wL0 <|
  rO (oMove lo1) w1 <|
  rO (oMove lo0) w2 <|
  rSkip) (rSeq (rO (oMove rd0) wL0 <|
  rO (oMove rd2) wL0 <|
  rO (oMove rd3) wL0 <|
  rO (oMove rd4) wL0 <|
  rCall 364 [lo3, lo2, lo1, lo0] wL0 <|
  rO (oMove lo0) wL0 <|
  rO (oExtract 0 lo0) wL0 <|
  rO (oExtract 1 lo1) wL0 <|
  rO (oMove lo1) w2 <|
  rO (oMove lo0) w3 <|
  rSkip) (rSeq (rO (oMove rd0) wL0 <|
  rO (oMove rd1) wL0 <|
  rO (oMove rd2) wL0 <|
  rO (oMove rd4) wL0 <|
  rCall 364 [lo3, lo2, lo1, lo0] wL0 <|
  rO (oMove lo0) wL0 <|
  rO (oExtract 0 lo0) wL0 <|
  rO (oExtract 1 lo1) wL0 <|
  rO (oMove lo1) w1 <|
  rO (oMove lo0) w2 <|
  rSkip) (rSeq (rO (oMove rd2) wL0 <|
  rO (oMove lo0) w10 <|
  rSkip) rRet)))))
def d348 : DF := .mk [w0, w1, w2, w3, w4] (resT rd10 resNil) c348
def c350 : Run :=
  (rSeq (rO (oBox rd0) w2 <|
  rO (oMove (rdC (.int 3 (.ofNat 0)))) w4 <|
  rO (oMove (rdC (.int 3 (.ofNat 0)))) w5 <|
  rSkip) (rSeq (rSeq (rO (oLoadN 2 rd2) wL0 <|
  rCall 247 [lo0] wL0 <|
  rO (oMove lo0) w6 <|
  rSkip) (rSeq (rO (oMove rd6) wL0 <|
  rO (oI ibNeq lo0 (rdC (.int 3 (.ofNat 0)))) w12 <|
  rSkip) (rCond rd12 (rSeq (rO (oMove rd6) wL0 <|
  rO (oMove (rdC (.int 3 (.ofNat 0)))) w4 <|
  rO (oMove lo0) w5 <|
  rSkip) rRet) rSkip))) (rSeq (rO (oLoadN 2 rd2) wL0 <|
  rO (oMove rd1) wL0 <|
  rCall 366 [lo1, lo0] wL0 <|
  rO (oMove lo0) wL0 <|
  rO (oExtract 0 lo0) wL0 <|
  rO (oExtract 1 lo1) wL0 <|
  rO (oMove lo1) w7 <|
  rO (oMove lo0) w8 <|
  rSkip) (rSeq (rSeq (rO (oMove rd8) wL0 <|
  rO (oI ibNeq lo0 (rdC (.int 3 (.ofNat 0)))) w21 <|
  rSkip) (rCond rd21 (rSeq (rO (oMove rd8) wL0 <|
  rO (oMove (rdC (.int 3 (.ofNat 0)))) w4 <|
  rO (oMove lo0) w5 <|
  rSkip) rRet) rSkip)) (rSeq (rO (oMove rd7) wL0 <|
  rO (oMove rd7) wL0 <|
  rO (oLenV lo0) wL0 <|
  rO (oI ibSub lo0 (rdC (.int 3 (.ofNat 1)))) wL0 <|
  rO (oIndexAddrV 1 lo3 lo0) wL0 <|
  rO (oLoad1 lo0) wL0 <|
  rO (oMove lo0) w4 <|
  rO (oMove (rdC (.int 3 (.ofNat 0)))) w5 <|
  rSkip) rRet)))))
def d350 : DF := .mk [w0, w1] (resT rd4 (resT rd5 resNil)) c350
def c351 : Run :=
  (rSeq (rO (oAlloc (mkCells [(.oth 1 0 [] []), (.int 3 (.ofNat 0))])) w4 <|
  rSkip) (rSeq (rO (oMkMap 8) wL0 <|
  rO (oMove rd1) wL0 <|
  rO (oMapUpd 8 lo1 lo0 (rdC (.int 3 (.ofNat 0)))) wN <|
  rO (oMove lo1) wL0 <|
  rO (oMove lo0) w5 <|
  rSkip) (rSeq (rO (oMove rd1) wL0 <|
  rO (oBuildSlice 1 [(.int 3 (.ofNat 0))] [(0, 1, lo0)]) wL0 <|
  rO (oMove lo0) w6 <|
  rSkip) (rSeq (rO (oAlloc (mkCells [(.oth 1 0 [] []), (.int 3 (.ofNat 0))])) w7 <|
  rSkip) (rSeq (rSeq (rO (oMove (rdC (.int 3 (.ofNat 0)))) w8 <|
  rSkip) (rBlock 0 (rLoop (rSeq (rSeq (rO (oMove rd8) wL0 <|
  rO (oMove rd6) wL0 <|
  rO (oLenV lo0) wL0 <|
  rO (oI ibLss lo2 lo0) w22 <|
  rSkip) (rCond rd22 rSkip (rExit 0))) (rSeq (rBlock 1 (rSeq (rO (oMove rd0) wL0 <|
  rO (oMove rd6) wL0 <|
  rO (oMove rd8) wL0 <|
  rO (oIndexAddrV 1 lo1 lo0) wL0 <|
  rO (oLoad1 lo0) wL0 <|
  rO (oIndexAddrV 2 lo4 lo0) wL0 <|
  rO (oFieldAddr 0 lo0) wL0 <|
  rO (oLoad1 lo0) wL0 <|
  rO (oBuild [(.str 0 0), (.oth 1 0 [] [])] [(0, 1, lo0)]) wL0 <|
  rO (oAlloc (mkCells [(.str 0 0), (.oth 1 0 [] [])])) w9 <|
  rO (oStoreN 2 rd9 lo0) wN <|
  rSkip) (rSeq (rSeq (rO (oMove rd0) wL0 <|
  rO (oMove rd6) wL0 <|
  rO (oMove rd8) wL0 <|
  rO (oIndexAddrV 1 lo1 lo0) wL0 <|
  rO (oLoad1 lo0) wL0 <|
  rO (oIndexAddrV 2 lo4 lo0) wL0 <|
  rO (oFieldAddr 1 lo0) wL0 <|
  rO (oLoad1 lo0) w41 <|
  rO (oLenV rd41) w42 <|
  rO (oMove (rdC (.int 3 (.ofNat 0)))) w43 <|
  rSkip) (rBlock 2 (rLoop (rSeq (rO (oI ibLss rd43 rd42) w44 <|
  rSkip) (rSeq (rCond rd44 rSkip (rExit 2)) (rSeq (rBlock 3 (rSeq (rO (oIndexAddrV 1 rd41 rd43) wL0 <|
  rO (oLoad1 lo0) wL0 <|
  rO (oMove lo0) w11 <|
  rSkip) (rSeq (rSeq (rO (oMove rd5) wL0 <|
  rO (oMove rd11) wL0 <|
  rO (oLookupOk 8 (.int 3 (.ofNat 0)) lo1 lo0) wL0 <|
  rO (oMove lo0) wL0 <|
  rO (oExtract 0 lo0) wL0 <|
  rO (oExtract 1 lo1) wL0 <|
  rO (oMove lo1) wL0 <|
  rO (oMove lo1) w13 <|
  rSkip) (rSeq (rO (oMove rd13) wL0 <|
  rO (oNot lo0) w54 <|
  rSkip) (rCond rd54 (rSeq (rO (oMove rd5) wL0 <|
  rO (oMove rd11) wL0 <|
  rO (oMove rd6) wL0 <|
  rO (oLenV lo0) wL0 <|
  rO (oMapUpd 8 lo3 lo2 lo0) wN <|
  rSkip) (rO (oMove rd6) wL0 <|
  rO (oMove rd11) wL0 <|
  rO (oBuildSlice 1 [(.int 3 (.ofNat 0))] [(0, 1, lo0)]) wL0 <|
  rO (oAppend 1 lo2 lo0) wL0 <|
  rO (oMove lo0) w6 <|
  rSkip)) rSkip))) (rO (oFieldAddr 1 rd9) wL0 <|
  rO (oLoad1 lo0) wL0 <|
  rO (oMove rd5) wL0 <|
  rO (oMove rd11) wL0 <|
  rO (oLookup 8 (.int 3 (.ofNat 0)) lo1 lo0) wL0 <|
  rO (oBuildSlice 1 [(.int 3 (.ofNat 0))] [(0, 1, lo0)]) wL0 <|
  rO (oAppend 1 lo4 lo0) wL0 <|
  rO (oFieldAddr 1 rd9) wL0 <|
  rO (oStore1 lo0 lo1) wN <|
  rSkip)))) (rO (oI ibAdd rd43 (rdC (.int 3 (.ofNat 1)))) wL0 <|
  rO (oMove lo0) w43 <|
  rSkip))))))) (rO (oFieldAddr 0 rd7) wL0 <|
  rO (oLoad1 lo0) wL0 <|
  rO (oLoadN 2 rd9) wL0 <|
  rO (oBuildSlice 1 [(.str 0 0), (.oth 1 0 [] [])] [(0, 2, lo0)]) wL0 <|
  rO (oAppend 2 lo2 lo0) wL0 <|
  rO (oFieldAddr 0 rd7) wL0 <|
  rO (oStore1 lo0 lo1) wN <|
  rSkip)))) (rO (oMove rd8) wL0 <|
  rO (oI ibAdd lo0 (rdC (.int 3 (.ofNat 1)))) wL0 <|
  rO (oMove lo0) w8 <|
  rSkip)))))) (rSeq (rO (oLoadN 2 rd7) wL0 <|
  rO (oStoreN 2 rd4 lo0) wN <|
  rSkip) rRet))))))
def d351 : DF := .mk [w0, w1] (resN 2 rd4 resNil) c351
def c352 : Run :=
  (rSeq (rO (oBox rd0) w2 <|
  rO (oAlloc (mkCells [(.oth 1 0 [] []), (.int 3 (.ofNat 0))])) w4 <|
  rO (oMove (rdC (.int 3 (.ofNat 0)))) w5 <|
  rSkip) (rSeq (rSeq (rO (oLoad1 rd2) wL0 <|
  rO (oMove rd1) wL0 <|
  rCall 355 [lo1, lo0] wL0 <|
  rO (oNot lo0) w32 <|
  rSkip) (rCond rd32 (rSeq (rO (oBuild [(.oth 1 0 [] []), (.int 3 (.ofNat 0))] []) wL0 <|
  rO (oStoreN 2 rd4 lo0) wN <|
  rO (oMove (rdC (.int 3 (.ofNat 14)))) w5 <|
  rSkip) rRet) rSkip)) (rSeq (rO (oMkFn 367 [] [rd2]) wL0 <|
  rO (oMove lo0) w6 <|
  rSkip) (rSeq (rO (oMove rd6) wL0 <|
  rO (oMove rd1) wL0 <|
  rCallV lo1 [lo0] wL0 <|
  rO (oBuildSlice 1 [(.int 3 (.ofNat 0))] [(0, 1, lo0)]) wL0 <|
  rO (oMkMap 8) wL0 <|
  rO (oMove rd6) wL0 <|
  rO (oMove rd1) wL0 <|
  rCallV lo1 [lo0] wL0 <|
  rO (oMapUpd 8 lo3 lo0 (rdC (.bool true))) wN <|
  rO (oMove lo3) wL0 <|
  rO (oMove lo5) w7 <|
  rO (oMove lo0) w8 <|
  rSkip) (rSeq (rSeq (rO (oMove (rdC (.int 3 (.ofNat 0)))) w9 <|
  rSkip) (rBlock 0 (rLoop (rSeq (rSeq (rO (oMove rd9) wL0 <|
  rO (oMove rd7) wL0 <|
  rO (oLenV lo0) wL0 <|
  rO (oI ibLss lo2 lo0) w47 <|
  rSkip) (rCond rd47 rSkip (rExit 0))) (rSeq (rBlock 1 (rSeq (rO (oLoad1 rd2) wL0 <|
  rO (oNilCheck lo0) wL0 <|
  rO (oFieldAddr 0 lo0) wL0 <|
  rO (oFieldAddr 0 lo0) wL0 <|
  rO (oLoad1 lo0) wL0 <|
  rO (oMove rd7) wL0 <|
  rO (oMove rd9) wL0 <|
  rO (oIndexAddrV 1 lo1 lo0) wL0 <|
  rO (oLoad1 lo0) wL0 <|
  rO (oIndexAddrV 2 lo4 lo0) wL0 <|
  rO (oFieldAddr 1 lo0) wL0 <|
  rO (oLoad1 lo0) w61 <|
  rO (oLenV rd61) w62 <|
  rO (oMove (rdC (.int 3 (.ofNat 0)))) w63 <|
  rSkip) (rBlock 2 (rLoop (rSeq (rO (oI ibLss rd63 rd62) w64 <|
  rSkip) (rSeq (rCond rd64 rSkip (rExit 2)) (rSeq (rBlock 3 (rSeq (rO (oIndexAddrV 1 rd61 rd63) wL0 <|
  rO (oLoad1 lo0) wL0 <|
  rO (oMove lo0) w11 <|
  rSkip) (rSeq (rO (oMove rd6) wL0 <|
  rO (oMove rd11) wL0 <|
  rCallV lo1 [lo0] wL0 <|
  rO (oMove lo0) w11 <|
  rSkip) (rSeq (rO (oMove rd8) wL0 <|
  rO (oMove rd11) wL0 <|
  rO (oLookup 8 (.bool false) lo1 lo0) wL0 <|
  rO (oNot lo0) w73 <|
  rSkip) (rCond rd73 (rSeq (rO (oMove rd8) wL0 <|
  rO (oMove rd11) wL0 <|
  rO (oMapUpd 8 lo1 lo0 (rdC (.bool true))) wN <|
  rSkip) (rO (oMove rd7) wL0 <|
  rO (oMove rd11) wL0 <|
  rO (oBuildSlice 1 [(.int 3 (.ofNat 0))] [(0, 1, lo0)]) wL0 <|
  rO (oAppend 1 lo2 lo0) wL0 <|
  rO (oMove lo0) w7 <|
  rSkip)) rSkip))))) (rO (oI ibAdd rd63 (rdC (.int 3 (.ofNat 1)))) wL0 <|
  rO (oMove lo0) w63 <|
  rSkip)))))))) (rO (oMove rd9) wL0 <|
  rO (oI ibAdd lo0 (rdC (.int 3 (.ofNat 1)))) wL0 <|
  rO (oMove lo0) w9 <|
  rSkip)))))) (rSeq (rO (oMkMap 8) wL0 <|
  rO (oMove lo0) w12 <|
  rO (oMove (rdC (.int 3 (.ofNat 0)))) w13 <|
  rSkip) (rSeq (rBlock 4 (rLoop (rBlock 5 (rSeq (rO (oMkMap 8) wL0 <|
  rO (oMkMap 8947859) wL0 <|
  rO (oMove lo1) w14 <|
  rO (oMove lo0) w15 <|
  rSkip) (rSeq (rSeq (rO (oMove rd7) w84 <|
  rO (oLenV rd84) w85 <|
  rO (oMove (rdC (.int 3 (.ofNat 0)))) w86 <|
  rSkip) (rBlock 6 (rLoop (rSeq (rO (oI ibLss rd86 rd85) w87 <|
  rSkip) (rSeq (rCond rd87 rSkip (rExit 6)) (rSeq (rBlock 7 (rSeq (rO (oIndexAddrV 1 rd84 rd86) wL0 <|
  rO (oLoad1 lo0) wL0 <|
  rO (oMove lo0) w17 <|
  rSkip) (rSeq (rO (oLoad1 rd2) wL0 <|
  rO (oNilCheck lo0) wL0 <|
  rO (oFieldAddr 0 lo0) wL0 <|
  rO (oFieldAddr 0 lo0) wL0 <|
  rO (oLoad1 lo0) wL0 <|
  rO (oMove rd17) wL0 <|
  rO (oIndexAddrV 2 lo1 lo0) wL0 <|
  rO (oFieldAddr 0 lo0) wL0 <|
  rO (oLoad1 lo0) wL0 <|
  rO (oLoad1 rd2) wL0 <|
  rO (oNilCheck lo0) wL0 <|
  rO (oFieldAddr 0 lo0) wL0 <|
  rO (oFieldAddr 0 lo0) wL0 <|
  rO (oLoad1 lo0) wL0 <|
  rO (oMove rd17) wL0 <|
  rO (oIndexAddrV 2 lo1 lo0) wL0 <|
  rO (oFieldAddr 1 lo0) wL0 <|
  rO (oLoad1 lo0) wL0 <|
  rO (oLenV lo0) wL0 <|
  rO (oBuild [(.str 0 0), (.int 3 (.ofNat 0)), (.int 3 (.ofNat 0)), (.int 3 (.ofNat 0)), (.int 3 (.ofNat 0)), (.int 3 (.ofNat 0))] [(0, 1, lo10), (1, 1, lo0)]) wL0 <|
  rO (oAlloc (mkCells [(.str 0 0), (.int 3 (.ofNat 0)), (.int 3 (.ofNat 0)), (.int 3 (.ofNat 0)), (.int 3 (.ofNat 0)), (.int 3 (.ofNat 0))])) w18 <|
  rO (oStoreN 6 rd18 lo0) wN <|
  rSkip) (rSeq (rSeq (rO (oLoad1 rd2) wL0 <|
  rO (oNilCheck lo0) wL0 <|
  rO (oFieldAddr 0 lo0) wL0 <|
  rO (oFieldAddr 0 lo0) wL0 <|
  rO (oLoad1 lo0) wL0 <|
  rO (oMove rd17) wL0 <|
  rO (oIndexAddrV 2 lo1 lo0) wL0 <|
  rO (oFieldAddr 1 lo0) wL0 <|
  rO (oLoad1 lo0) w118 <|
  rO (oLenV rd118) w119 <|
  rO (oMove (rdC (.int 3 (.ofNat 0)))) w120 <|
  rSkip) (rBlock 8 (rLoop (rSeq (rO (oI ibLss rd120 rd119) w121 <|
  rSkip) (rSeq (rCond rd121 rSkip (rExit 8)) (rSeq (rBlock 9 (rSeq (rO (oMove rd120) wL0 <|
  rO (oIndexAddrV 1 rd118 rd120) wL0 <|
  rO (oLoad1 lo0) wL0 <|
  rO (oMove lo2) w19 <|
  rO (oMove lo0) w20 <|
  rSkip) (rO (oMove rd19) wL0 <|
  rO (oMove rd12) wL0 <|
  rO (oMove rd6) wL0 <|
  rO (oMove rd20) wL0 <|
  rCallV lo1 [lo0] wL0 <|
  rO (oLookup 8 (.int 3 (.ofNat 0)) lo3 lo0) wL0 <|
  rO (oFieldAddr 2 rd18) wL0 <|
  rO (oIndexAddrA 4 1 lo0 lo6) wL0 <|
  rO (oStore1 lo0 lo2) wN <|
  rSkip))) (rO (oI ibAdd rd120 (rdC (.int 3 (.ofNat 1)))) wL0 <|
  rO (oMove lo0) w120 <|
  rSkip))))))) (rSeq (rSeq (rO (oMove rd15) wL0 <|
  rO (oLoadN 6 rd18) wL0 <|
  rO (oLookupOk 8947859 (.int 3 (.ofNat 0)) lo1 lo0) wL0 <|
  rO (oMove lo0) wL0 <|
  rO (oExtract 0 lo0) wL0 <|
  rO (oExtract 1 lo1) wL0 <|
  rO (oMove lo1) wL0 <|
  rO (oMove lo1) w22 <|
  rSkip) (rSeq (rO (oMove rd22) wL0 <|
  rO (oNot lo0) w141 <|
  rSkip) (rCond rd141 (rO (oMove rd15) wL0 <|
  rO (oLoadN 6 rd18) wL0 <|
  rO (oMove rd15) wL0 <|
  rO (oLenM lo0) wL0 <|
  rO (oMapUpd 8947859 lo3 lo2 lo0) wN <|
  rSkip) rSkip))) (rO (oMove rd14) wL0 <|
  rO (oMove rd17) wL0 <|
  rO (oMove rd15) wL0 <|
  rO (oLoadN 6 rd18) wL0 <|
  rO (oLookup 8947859 (.int 3 (.ofNat 0)) lo1 lo0) wL0 <|
  rO (oMapUpd 8 lo4 lo3 lo0) wN <|
  rSkip)))))) (rO (oI ibAdd rd86 (rdC (.int 3 (.ofNat 1)))) wL0 <|
  rO (oMove lo0) w86 <|
  rSkip))))))) (rSeq (rO (oMove rd14) wL0 <|
  rO (oMove lo0) w12 <|
  rSkip) (rSeq (rSeq (rO (oMove rd15) wL0 <|
  rO (oLenM lo0) wL0 <|
  rO (oMove rd13) wL0 <|
  rO (oI ibEql lo1 lo0) w156 <|
  rSkip) (rCond rd156 (rExit 4) rSkip)) (rO (oMove rd15) wL0 <|
  rO (oLenM lo0) wL0 <|
  rO (oMove lo0) w13 <|
  rSkip)))))))) (rSeq (rSeq (rO (oMove rd13) wL0 <|
  rO (oI ibGtr lo0 (rdC (.int 3 (.ofNat 60)))) w160 <|
  rSkip) (rCond rd160 (rSeq (rO (oBuild [(.oth 1 0 [] []), (.int 3 (.ofNat 0))] []) wL0 <|
  rO (oStoreN 2 rd4 lo0) wN <|
  rO (oMove (rdC (.int 3 (.ofNat 2)))) w5 <|
  rSkip) rRet) rSkip)) (rSeq (rO (oMove rd13) wL0 <|
  rO (oMkSlice [(.str 0 0), (.oth 1 0 [] [])] lo0 lo0) wL0 <|
  rO (oBuild [(.oth 1 0 [] []), (.int 3 (.ofNat 0))] [(0, 1, lo0)]) wL0 <|
  rO (oAlloc (mkCells [(.oth 1 0 [] []), (.int 3 (.ofNat 0))])) w23 <|
  rO (oStoreN 2 rd23 lo0) wN <|
  rSkip) (rSeq (rSeq (rO (oMove rd7) w165 <|
  rO (oLenV rd165) w166 <|
  rO (oMove (rdC (.int 3 (.ofNat 0)))) w167 <|
  rSkip) (rBlock 10 (rLoop (rSeq (rO (oI ibLss rd167 rd166) w168 <|
  rSkip) (rSeq (rCond rd168 rSkip (rExit 10)) (rSeq (rBlock 11 (rSeq (rO (oIndexAddrV 1 rd165 rd167) wL0 <|
  rO (oLoad1 lo0) wL0 <|
  rO (oMove lo0) w25 <|
  rSkip) (rSeq (rO (oFieldAddr 0 rd23) wL0 <|
  rO (oLoad1 lo0) wL0 <|
  rO (oMove rd12) wL0 <|
  rO (oMove rd25) wL0 <|
  rO (oLookup 8 (.int 3 (.ofNat 0)) lo1 lo0) wL0 <|
  rO (oIndexAddrV 2 lo3 lo0) wL0 <|
  rO (oMove lo0) w26 <|
  rSkip) (rSeq (rSeq (rO (oMove rd26) wL0 <|
  rO (oNilCheck lo0) wL0 <|
  rO (oFieldAddr 0 lo0) wL0 <|
  rO (oLoad1 lo0) wL0 <|
  rO (oS sbNeq lo0 (rdC (.str 0 0))) w181 <|
  rSkip) (rCond rd181 (rExit 11) rSkip)) (rSeq (rO (oMove rd26) wL0 <|
  rO (oLoad1 rd2) wL0 <|
  rO (oNilCheck lo0) wL0 <|
  rO (oFieldAddr 0 lo0) wL0 <|
  rO (oFieldAddr 0 lo0) wL0 <|
  rO (oLoad1 lo0) wL0 <|
  rO (oMove rd25) wL0 <|
  rO (oIndexAddrV 2 lo1 lo0) wL0 <|
  rO (oFieldAddr 0 lo0) wL0 <|
  rO (oLoad1 lo0) wL0 <|
  rO (oNilCheck lo9) wL0 <|
  rO (oFieldAddr 0 lo0) wL0 <|
  rO (oStore1 lo0 lo2) wN <|
  rSkip) (rSeq (rO (oLoad1 rd2) wL0 <|
  rO (oNilCheck lo0) wL0 <|
  rO (oFieldAddr 0 lo0) wL0 <|
  rO (oFieldAddr 0 lo0) wL0 <|
  rO (oLoad1 lo0) wL0 <|
  rO (oMove rd25) wL0 <|
  rO (oIndexAddrV 2 lo1 lo0) wL0 <|
  rO (oFieldAddr 1 lo0) wL0 <|
  rO (oLoad1 lo0) w202 <|
  rO (oLenV rd202) w203 <|
  rO (oMove (rdC (.int 3 (.ofNat 0)))) w204 <|
  rSkip) (rBlock 12 (rLoop (rSeq (rO (oI ibLss rd204 rd203) w205 <|
  rSkip) (rSeq (rCond rd205 rSkip (rExit 12)) (rSeq (rBlock 13 (rSeq (rO (oIndexAddrV 1 rd202 rd204) wL0 <|
  rO (oLoad1 lo0) wL0 <|
  rO (oMove lo0) w28 <|
  rSkip) (rO (oMove rd26) wL0 <|
  rO (oMove rd26) wL0 <|
  rO (oNilCheck lo0) wL0 <|
  rO (oFieldAddr 1 lo0) wL0 <|
  rO (oLoad1 lo0) wL0 <|
  rO (oMove rd12) wL0 <|
  rO (oMove rd6) wL0 <|
  rO (oMove rd28) wL0 <|
  rCallV lo1 [lo0] wL0 <|
  rChk (oLoad1 lo5) lo4 <|
  rO (oLookup 8 (.int 3 (.ofNat 0)) lo3 lo0) wL0 <|
  rO (oBuildSlice 1 [(.int 3 (.ofNat 0))] [(0, 1, lo0)]) wL0 <|
  rO (oAppend 1 lo6 lo0) wL0 <|
  rO (oNilCheck lo11) wL0 <|
  rO (oFieldAddr 1 lo0) wL0 <|
  rO (oStore1 lo0 lo2) wN <|
  rSkip))) (rO (oI ibAdd rd204 (rdC (.int 3 (.ofNat 1)))) wL0 <|
  rO (oMove lo0) w204 <|
  rSkip)))))))))))) (rO (oI ibAdd rd167 (rdC (.int 3 (.ofNat 1)))) wL0 <|
  rO (oMove lo0) w167 <|
  rSkip))))))) (rSeq (rO (oLoadN 2 rd23) wL0 <|
  rO (oStoreN 2 rd4 lo0) wN <|
  rO (oMove (rdC (.int 3 (.ofNat 0)))) w5 <|
  rSkip) rRet)))))))))))
def d352 : DF := .mk [w0, w1] (resN 2 rd4 (resT rd5 resNil)) c352
def c353 : Run :=
  (rSeq (rO (oBox rd1) w3 <|
  rO (oMove (rdC (.int 3 (.ofNat 0)))) w4 <|
  rSkip) (rSeq (rO (oMove rd0) wL0 <|
  rO (oNilCheck lo0) wL0 <|
  rO (oFieldAddr 5 lo0) wL0 <|
  rO (oFieldAddr 0 lo0) wL0 <|
  rO (oLoad1 lo0) wL0 <|
  rO (oMkFn 369 [] [rd3]) wL0 <|
  rCall 169 [lo1, lo0] wL0 <|
  rO (oMove lo0) w4 <|
  rSkip) rRet))
def d353 : DF := .mk [w0, w1] (resT rd4 resNil) c353
def c354 : Run :=
  (rSeq (rO (oBox rd1) w4 <|
  rO (oBox rd2) w5 <|
  rO (oMove (rdC (.int 3 (.ofNat 0)))) w6 <|
  rSkip) (rSeq (rO (oAlloc (mkCells [(.oth 6 0 [] [])])) w7 <|
  rO (oStore1 rd7 (rdC (.oth 4 370 [] []))) wN <|
  rSkip) (rSeq (rO (oMove rd0) wL0 <|
  rO (oNilCheck lo0) wL0 <|
  rO (oFieldAddr 0 lo0) wL0 <|
  rO (oFieldAddr 1 lo0) wL0 <|
  rO (oLoad1 lo0) wL0 <|
  rO (oMkFn 372 [] [rd4, rd5, rd7]) wL0 <|
  rCall 174 [lo1, lo0] wL0 <|
  rO (oMove lo0) w6 <|
  rSkip) rRet)))
def d354 : DF := .mk [w0, w1, w2] (resT rd6 resNil) c354
def c355 : Run :=
  (rSeq (rO (oBox rd0) w2 <|
  rO (oAlloc (mkCells [(.bool false)])) w4 <|
  rSkip) (rSeq (rSeq (rO (oLoad1 rd2) wL0 <|
  rO (oMove rd1) wL0 <|
  rO (oBuildSlice 1 [(.int 3 (.ofNat 0))] [(0, 1, lo0)]) wL0 <|
  rCall 373 [lo2, lo0] w11 <|
  rSkip) (rBlock 0 (rRange rd11 5))) (rSeq (rO (oStore1 rd4 (rdC (.bool true))) wN <|
  rSkip) rRet)))
def d355 : DF := .mk [w0, w1] (res1 rd4 resNil) c355
def c360 : Run :=
  (rSeq (rO (oMove (rdC (.bool false))) w4 <|
  rSkip) (rSeq (rO (oMove rd0) wL0 <|
  rO (oMove rd1) wL0 <|
  rO (oNilCheck lo1) wL0 <|
  rO (oIndexAddrA 256 1 lo0 lo1) wL0 <|
  rO (oLoad1 lo0) wL0 <|
  rO (oMove lo0) w4 <|
  rSkip) rRet))
def d360 : DF := .mk [w0, w1] (resT rd4 resNil) c360
def c361 : Run :=
  (rSeq (rO (oMove (rdC (.int 2 (.ofNat 0)))) w2 <|
  rO (oMove (rdC (.int 3 (.ofNat 0)))) w3 <|
  rSkip) (rSeq (rSeq (rO (oMove rd0) wL0 <|
  rO (oS sbNeq lo0 (rdC (.str 0 0))) wL0 <|
  rO (oMove lo0) wL0 <|
  rG lo0 true wL0 (rO (oMove rd0) wL0) <|
  rG lo1 true wL0 (rO (oIndexS lo0 (rdC (.int 3 (.ofNat 0)))) wL0) <|
  rG lo2 true wL0 (rO (oI ibLss lo0 (rdC (.int 4 (.ofNat 128)))) wL0) <|
  rO (oPick lo3 lo0 (rdC (.bool false))) w10 <|
  rSkip) (rCond rd10 (rSeq (rO (oMove rd0) wL0 <|
  rO (oIndexS lo0 (rdC (.int 3 (.ofNat 0)))) wL0 <|
  rO (oConv 2 lo0) wL0 <|
  rO (oMove lo0) w2 <|
  rO (oMove (rdC (.int 3 (.ofNat 1)))) w3 <|
  rSkip) rRet) (rO (oMove rd0) wL0 <|
  rCall 374 [lo0] wL0 <|
  rO (oMove lo0) wL0 <|
  rO (oExtract 0 lo0) wL0 <|
  rO (oExtract 1 lo1) wL0 <|
  rO (oMove lo1) w2 <|
  rO (oMove lo0) w3 <|
  rSkip))) rRet))
def d361 : DF := .mk [w0] (resT rd2 (resT rd3 resNil)) c361
def c362 : Run :=
  (rSeq (rO (oMove (rdC (.bool false))) w4 <|
  rSkip) (rSeq (rO (oMove rd0) wL0 <|
  rO (oMove rd1) wL0 <|
  rCall 375 [lo1, lo0] wL0 <|
  rO (oI ibGeq lo0 (rdC (.int 3 (.ofNat 0)))) wL0 <|
  rO (oMove lo0) w4 <|
  rSkip) rRet))
def d362 : DF := .mk [w0, w1] (resT rd4 resNil) c362
def c363 : Run :=
  (rSeq (rO (oMove (rdC (.int 2 (.ofNat 0)))) w2 <|
  rO (oMove (rdC (.int 3 (.ofNat 0)))) w3 <|
  rSkip) (rSeq (rO (oMove rd0) wL0 <|
  rO (oLenS lo0) wL0 <|
  rO (oMove lo0) w4 <|
  rSkip) (rSeq (rSeq (rO (oMove rd4) wL0 <|
  rO (oI ibEql lo0 (rdC (.int 3 (.ofNat 0)))) w10 <|
  rSkip) (rCond rd10 (rSeq (rO (oMove (rdC (.int 2 (.ofNat 65533)))) w2 <|
  rO (oMove (rdC (.int 3 (.ofNat 0)))) w3 <|
  rSkip) rRet) rSkip)) (rSeq (rO (oMove rd4) wL0 <|
  rO (oI ibSub lo0 (rdC (.int 3 (.ofNat 1)))) wL0 <|
  rO (oMove lo0) w5 <|
  rSkip) (rSeq (rO (oMove rd0) wL0 <|
  rO (oMove rd5) wL0 <|
  rO (oIndexS lo1 lo0) wL0 <|
  rO (oConv 2 lo0) wL0 <|
  rO (oMove lo0) w2 <|
  rSkip) (rSeq (rSeq (rO (oMove rd2) wL0 <|
  rO (oI ibLss lo0 (rdC (.int 2 (.ofNat 128)))) w18 <|
  rSkip) (rCond rd18 (rSeq (rO (oMove rd2) wL0 <|
  rO (oMove lo0) w2 <|
  rO (oMove (rdC (.int 3 (.ofNat 1)))) w3 <|
  rSkip) rRet) rSkip)) (rSeq (rO (oMove rd4) wL0 <|
  rO (oI ibSub lo0 (rdC (.int 3 (.ofNat 4)))) wL0 <|
  rO (oMinMax true lo0 (rdC (.int 3 (.ofNat 0)))) wL0 <|
  rO (oMove lo0) w6 <|
  rSkip) (rSeq (rSeq (rO (oMove rd5) wL0 <|
  rO (oI ibSub lo0 (rdC (.int 3 (.ofNat 1)))) wL0 <|
  rO (oMove lo0) w5 <|
  rSkip) (rBlock 0 (rLoop (rSeq (rSeq (rO (oMove rd5) wL0 <|
  rO (oMove rd6) wL0 <|
  rO (oI ibGeq lo1 lo0) w27 <|
  rSkip) (rCond rd27 rSkip (rExit 0))) (rSeq (rBlock 1 (rSeq (rO (oMove rd0) wL0 <|
  rO (oMove rd5) wL0 <|
  rO (oIndexS lo1 lo0) wL0 <|
  rCall 376 [lo0] w33 <|
  rSkip) (rCond rd33 (rExit 0) rSkip))) (rO (oMove rd5) wL0 <|
  rO (oI ibSub lo0 (rdC (.int 3 (.ofNat 1)))) wL0 <|
  rO (oMove lo0) w5 <|
  rSkip)))))) (rSeq (rSeq (rO (oMove rd5) wL0 <|
  rO (oI ibLss lo0 (rdC (.int 3 (.ofNat 0)))) w35 <|
  rSkip) (rCond rd35 (rO (oMove (rdC (.int 3 (.ofNat 0)))) w5 <|
  rSkip) rSkip)) (rSeq (rO (oMove rd0) wL0 <|
  rO (oMove rd5) wL0 <|
  rO (oMove rd4) wL0 <|
  rO (oSliceS lo2 (some lo1) (some lo0)) wL0 <|
  rCall 361 [lo0] wL0 <|
  rO (oMove lo0) wL0 <|
  rO (oExtract 0 lo0) wL0 <|
  rO (oExtract 1 lo1) wL0 <|
  rO (oMove lo1) w2 <|
  rO (oMove lo0) w3 <|
  rSkip) (rSeq (rSeq (rO (oMove rd5) wL0 <|
  rO (oMove rd3) wL0 <|
  rO (oI ibAdd lo1 lo0) wL0 <|
  rO (oMove rd4) wL0 <|
  rO (oI ibNeq lo1 lo0) w48 <|
  rSkip) (rCond rd48 (rSeq (rO (oMove (rdC (.int 2 (.ofNat 65533)))) w2 <|
  rO (oMove (rdC (.int 3 (.ofNat 1)))) w3 <|
  rSkip) rRet) rSkip)) (rSeq (rO (oMove rd2) wL0 <|
  rO (oMove rd3) wL0 <|
  rO (oMove lo1) w2 <|
  rO (oMove lo0) w3 <|
  rSkip) rRet))))))))))))
def d363 : DF := .mk [w0] (resT rd2 (resT rd3 resNil)) c363
def c364 : Run :=
  (rSeq (rO (oMove (rdC (.int 3 (.ofNat 0)))) w8 <|
  rO (oMove (rdC (.int 3 (.ofNat 0)))) w9 <|
  rSkip) (rSeq (rSeq (rO (oMove rd0) wL0 <|
  rO (oMove rd2) wL0 <|
  rO (oIndexAddrV 1 lo1 lo0) wL0 <|
  rO (oLoad1 lo0) wL0 <|
  rO (oMove rd0) wL0 <|
  rO (oMove rd1) wL0 <|
  rO (oIndexAddrV 1 lo1 lo0) wL0 <|
  rO (oLoad1 lo0) wL0 <|
  rCall 312 [lo4, lo0] w18 <|
  rSkip) (rCond rd18 (rSeq (rO (oMove rd3) wL0 <|
  rO (oNilCheck lo0) wL0 <|
  rO (oLoad1 lo0) wL0 <|
  rO (oI ibAdd lo0 (rdC (.int 3 (.ofNat 1)))) wL0 <|
  rO (oNilCheck lo3) wL0 <|
  rO (oStore1 lo0 lo1) wN <|
  rSkip) (rSeq (rO (oMove rd2) wL0 <|
  rO (oMove rd1) wL0 <|
  rO (oMove lo1) w8 <|
  rO (oMove lo0) w9 <|
  rSkip) rRet)) rSkip)) (rSeq (rO (oMove rd1) wL0 <|
  rO (oMove rd2) wL0 <|
  rO (oMove lo1) w8 <|
  rO (oMove lo0) w9 <|
  rSkip) rRet)))
def d364 : DF := .mk [w0, w1, w2, w3] (resT rd8 (resT rd9 resNil)) c364
def c366 : Run :=
  (rSeq (rO (oBox rd0) w2 <|
  rO (oMove (rdC (.oth 1 0 [] []))) w4 <|
  rO (oMove (rdC (.int 3 (.ofNat 0)))) w5 <|
  rSkip) (rSeq (rSeq (rO (oMove rd1) wL0 <|
  rO (oLenV lo0) wL0 <|
  rO (oI ibGtr lo0 (rdC (.int 3 (.ofNat 40)))) w12 <|
  rSkip) (rCond rd12 (rSeq (rO (oMove (rdC (.oth 1 0 [] []))) w4 <|
  rO (oMove (rdC (.int 3 (.ofNat 2)))) w5 <|
  rSkip) rRet) rSkip)) (rSeq (rO (oFieldAddr 1 rd2) wL0 <|
  rO (oLoad1 lo0) wL0 <|
  rO (oBuildSlice 1 [(.int 3 (.ofNat 0))] [(0, 1, lo0)]) wL0 <|
  rO (oMove lo0) w6 <|
  rSkip) (rSeq (rSeq (rO (oMove rd1) w16 <|
  rO (oLenV rd16) w17 <|
  rO (oMove (rdC (.int 3 (.ofNat 0)))) w18 <|
  rSkip) (rBlock 0 (rLoop (rSeq (rO (oI ibLss rd18 rd17) w19 <|
  rSkip) (rSeq (rCond rd19 rSkip (rExit 0)) (rSeq (rBlock 1 (rSeq (rO (oMove rd18) wL0 <|
  rO (oIndexAddrV 1 rd16 rd18) wL0 <|
  rO (oLoad1 lo0) wL0 <|
  rO (oMove lo2) w7 <|
  rO (oMove lo0) w8 <|
  rSkip) (rSeq (rO (oFieldAddr 0 rd2) wL0 <|
  rO (oLoad1 lo0) wL0 <|
  rO (oMove rd6) wL0 <|
  rO (oMove rd7) wL0 <|
  rO (oIndexAddrV 1 lo1 lo0) wL0 <|
  rO (oLoad1 lo0) wL0 <|
  rO (oIndexAddrV 2 lo4 lo0) wL0 <|
  rO (oFieldAddr 1 lo0) wL0 <|
  rO (oLoad1 lo0) wL0 <|
  rO (oMove lo0) w9 <|
  rSkip) (rSeq (rSeq (rO (oMove rd8) wL0 <|
  rO (oI ibLss lo0 (rdC (.int 3 (.ofNat 0)))) wL0 <|
  rO (oMove lo0) wL0 <|
  rG lo0 false wL0 (rO (oMove rd8) wL0) <|
  rG lo1 false wL0 (rO (oMove rd9) wL0) <|
  rG lo2 false wL0 (rO (oLenV lo0) wL0) <|
  rG lo3 false wL0 (rO (oI ibGeq lo2 lo0) wL0) <|
  rO (oPick lo4 (rdC (.bool true)) lo0) w39 <|
  rSkip) (rCond rd39 (rSeq (rO (oMove (rdC (.oth 1 0 [] []))) w4 <|
  rO (oMove (rdC (.int 3 (.ofNat 1)))) w5 <|
  rSkip) rRet) rSkip)) (rO (oMove rd6) wL0 <|
  rO (oMove rd9) wL0 <|
  rO (oMove rd8) wL0 <|
  rO (oIndexAddrV 1 lo1 lo0) wL0 <|
  rO (oLoad1 lo0) wL0 <|
  rO (oBuildSlice 1 [(.int 3 (.ofNat 0))] [(0, 1, lo0)]) wL0 <|
  rO (oAppend 1 lo5 lo0) wL0 <|
  rO (oMove lo0) w6 <|
  rSkip))))) (rO (oI ibAdd rd18 (rdC (.int 3 (.ofNat 1)))) wL0 <|
  rO (oMove lo0) w18 <|
  rSkip))))))) (rSeq (rO (oMove rd6) wL0 <|
  rO (oMove lo0) w4 <|
  rO (oMove (rdC (.int 3 (.ofNat 0)))) w5 <|
  rSkip) rRet)))))
def d366 : DF := .mk [w0, w1] (resT rd4 (resT rd5 resNil)) c366
def c367 : Run :=
  (rSeq (rO (oMove (rdC (.int 3 (.ofNat 0)))) w3 <|
  rSkip) (rSeq (rO (oLoad1 rd1) wL0 <|
  rO (oMove rd0) wL0 <|
  rCall 368 [lo1, lo0] wL0 <|
  rO (oMove lo0) wL0 <|
  rO (oExtract 0 lo0) wL0 <|
  rO (oExtract 1 lo1) wL0 <|
  rO (oMove lo1) w4 <|
  rO (oMove lo0) wL0 <|
  rSkip) (rSeq (rO (oMove rd4) wL0 <|
  rO (oMove lo0) w3 <|
  rSkip) rRet)))
def d367 : DF := .mk [w0, w1] (resT rd3 resNil) c367
def c368 : Run :=
  (rSeq (rO (oMove (rdC (.int 3 (.ofNat 0)))) w4 <|
  rO (oMove (rdC (.bool false))) w5 <|
  rSkip) (rSeq (rSeq (rO (oMove rd0) wL0 <|
  rO (oNilCheck lo0) wL0 <|
  rO (oFieldAddr 0 lo0) wL0 <|
  rO (oFieldAddr 1 lo0) wL0 <|
  rO (oLoad1 lo0) wL0 <|
  rO (oLenV lo0) wL0 <|
  rO (oI ibAdd lo0 (rdC (.int 3 (.ofNat 1)))) w13 <|
  rO (oMove (rdC (.int 3 (.ofNat 0)))) w14 <|
  rSkip) (rBlock 0 (rLoop (rSeq (rO (oI ibLss rd14 rd13) w15 <|
  rSkip) (rSeq (rCond rd15 rSkip (rExit 0)) (rSeq (rBlock 1 (rSeq (rSeq (rO (oMove rd1) wL0 <|
  rO (oI ibGeq lo0 (rdC (.int 3 (.ofNat 0)))) w17 <|
  rSkip) (rCond rd17 (rSeq (rO (oMove rd1) wL0 <|
  rO (oMove lo0) w4 <|
  rO (oMove (rdC (.bool false))) w5 <|
  rSkip) rRet) rSkip)) (rSeq (rO (oMove rd0) wL0 <|
  rO (oNilCheck lo0) wL0 <|
  rO (oFieldAddr 0 lo0) wL0 <|
  rO (oFieldAddr 1 lo0) wL0 <|
  rO (oLoad1 lo0) wL0 <|
  rO (oMove rd1) wL0 <|
  rO (oNeg lo0) wL0 <|
  rO (oI ibSub lo0 (rdC (.int 3 (.ofNat 1)))) wL0 <|
  rO (oIndexAddrV 5 lo3 lo0) wL0 <|
  rO (oLoadN 5 lo0) wL0 <|
  rO (oAlloc (mkCells [(.int 3 (.ofNat 0)), (.int 3 (.ofNat 0)), (.oth 1 0 [] []), (.bool false), (.int 3 (.ofNat 0))])) w6 <|
  rO (oStoreN 5 rd6 lo0) wN <|
  rSkip) (rSeq (rSeq (rO (oFieldAddr 3 rd6) wL0 <|
  rO (oLoad1 lo0) wL0 <|
  rO (oNot lo0) w31 <|
  rSkip) (rCond rd31 (rSeq (rO (oMove (rdC (.int 3 (.ofNat 0)))) w4 <|
  rO (oMove (rdC (.bool true))) w5 <|
  rSkip) rRet) rSkip)) (rO (oFieldAddr 4 rd6) wL0 <|
  rO (oLoad1 lo0) wL0 <|
  rO (oMove lo0) w1 <|
  rSkip))))) (rO (oI ibAdd rd14 (rdC (.int 3 (.ofNat 1)))) wL0 <|
  rO (oMove lo0) w14 <|
  rSkip))))))) (rSeq (rO (oMove (rdC (.int 3 (.ofNat 0)))) w4 <|
  rO (oMove (rdC (.bool true))) w5 <|
  rSkip) rRet)))
def d368 : DF := .mk [w0, w1] (resT rd4 (resT rd5 resNil)) c368
def c369 : Run :=
  (rSeq (rO (oBox rd0) w2 <|
  rO (oMove (rdC (.bool false))) w3 <|
  rSkip) (rSeq (rO (oFieldAddr 0 rd2) wL0 <|
  rO (oLoad1 lo0) wL0 <|
  rO (oLoad1 rd1) wL0 <|
  rO (oS sbEql lo1 lo0) wL0 <|
  rO (oMove lo0) w3 <|
  rSkip) rRet))
def d369 : DF := .mk [w0, w1] (resT rd3 resNil) c369
def c370 : Run :=
  (rSeq (rO (oBox rd0) w2 <|
  rO (oBox rd1) w3 <|
  rO (oMove (rdC (.bool false))) w4 <|
  rSkip) (rSeq (rO (oLoadN 2 rd2) wL0 <|
  rO (oLoadN 2 rd3) wL0 <|
  rCall 371 [lo1, lo0] wL0 <|
  rO (oMove lo0) wL0 <|
  rO (oExtract 0 lo0) wL0 <|
  rO (oExtract 1 lo1) wL0 <|
  rO (oMove lo1) w5 <|
  rO (oMove lo0) wL0 <|
  rSkip) (rSeq (rO (oMove rd5) wL0 <|
  rO (oMove lo0) w4 <|
  rSkip) rRet)))
def d370 : DF := .mk [w0, w1] (resT rd4 resNil) c370
def c371 : Run :=
  (rSeq (rO (oBox rd0) w2 <|
  rO (oBox rd1) w3 <|
  rO (oMove (rdC (.bool false))) w4 <|
  rO (oMove (rdC (.int 3 (.ofNat 0)))) w5 <|
  rSkip) (rSeq (rO (oLoadN 2 rd2) wL0 <|
  rO (oLoadN 2 rd3) wL0 <|
  rCall 377 [lo1, lo0] wL0 <|
  rO (oMove lo0) wL0 <|
  rO (oExtract 0 lo0) wL0 <|
  rO (oExtract 1 lo1) wL0 <|
  rO (oMove lo1) w6 <|
  rO (oMove lo0) w7 <|
  rSkip) (rSeq (rSeq (rO (oMove rd7) wL0 <|
  rO (oI ibNeq lo0 (rdC (.int 3 (.ofNat 0)))) w18 <|
  rSkip) (rCond rd18 (rSeq (rO (oMove rd7) wL0 <|
  rO (oMove (rdC (.bool false))) w4 <|
  rO (oMove lo0) w5 <|
  rSkip) rRet) rSkip)) (rSeq (rO (oMove rd6) wL0 <|
  rCall 378 [lo0] wL0 <|
  rO (oMove lo0) wL0 <|
  rO (oExtract 0 lo0) wL0 <|
  rO (oExtract 1 lo1) wL0 <|
  rO (oExtract 2 lo2) wL0 <|
  rO (oAlloc (mkCells [(.int 3 (.ofNat 0)), (.int 3 (.ofNat 0))])) wL0 <|
  rO (oMove lo3) wL0 <|
  rO (oStoreN 2 lo1 lo3) wN <|
  rO (oMove lo2) w10 <|
  rSkip) (rSeq (rO (oMove rd10) wL0 <|
  rO (oNot lo0) wL0 <|
  rO (oMove lo0) w4 <|
  rO (oMove (rdC (.int 3 (.ofNat 0)))) w5 <|
  rSkip) rRet)))))
def d371 : DF := .mk [w0, w1] (resT rd4 (resT rd5 resNil)) c371
def c372 : Run :=
  (rSeq (rO (oBox rd0) w4 <|
  rO (oMove (rdC (.bool false))) w5 <|
  rSkip) (rSeq (rO (oFieldAddr 0 rd4) wL0 <|
  rO (oLoad1 lo0) wL0 <|
  rO (oLoad1 rd1) wL0 <|
  rO (oI ibEql lo1 lo0) wL0 <|
  rO (oMove lo0) wL0 <|
  rG lo0 true wL0 (rO (oFieldAddr 2 rd4) wL0) <|
  rG lo1 true wL0 (rO (oLoad1 lo0) wL0) <|
  rG lo2 true wL0 (rO (oLoad1 rd2) wL0) <|
  rG lo3 true wL0 (rO (oLoad1 rd3) wL0) <|
  rG lo4 true wL0 (rCall 158 [lo2, lo1, lo0] wL0) <|
  rO (oPick lo5 lo0 (rdC (.bool false))) wL0 <|
  rO (oMove lo0) w5 <|
  rSkip) rRet))
def d372 : DF := .mk [w0, w1, w2, w3] (resT rd5 resNil) c372
def c373 : Run :=
  (rSeq (rO (oBox rd0) w2 <|
  rO (oBox rd1) w3 <|
  rO (oMove (rdC (.oth 6 0 [] []))) w4 <|
  rSkip) (rSeq (rO (oMkFn 379 [] [rd3, rd2]) wL0 <|
  rO (oMove lo0) w4 <|
  rSkip) rRet))
def d373 : DF := .mk [w0, w1] (resT rd4 resNil) c373
def c376 : Run :=
  (rSeq (rO (oMove (rdC (.bool false))) w2 <|
  rSkip) (rSeq (rO (oMove rd0) wL0 <|
  rO (oI (ibNat Nat.land) lo0 (rdC (.int 4 (.ofNat 192)))) wL0 <|
  rO (oI ibNeq lo0 (rdC (.int 4 (.ofNat 128)))) wL0 <|
  rO (oMove lo0) w2 <|
  rSkip) rRet))
def d376 : DF := .mk [w0] (resT rd2 resNil) c376
def c377 : Run :=
  (rSeq (rO (oBox rd0) w2 <|
  rO (oBox rd1) w3 <|
  rO (oMove (rdC (.oth 0 0 [] []))) w4 <|
  rO (oMove (rdC (.int 3 (.ofNat 0)))) w5 <|
  rSkip) (rSeq (rSeq (rO (oLoadN 2 rd2) wL0 <|
  rO (oLoadN 2 rd3) wL0 <|
  rO (oBuildSlice 2 [(.oth 1 0 [] []), (.int 3 (.ofNat 0)), (.oth 1 0 [] []), (.int 3 (.ofNat 0))] [(0, 2, lo1), (2, 2, lo0)]) wL0 <|
  rCall 262 [lo0] wL0 <|
  rO (oMove lo0) w6 <|
  rSkip) (rSeq (rO (oMove rd6) wL0 <|
  rO (oI ibNeq lo0 (rdC (.int 3 (.ofNat 0)))) w12 <|
  rSkip) (rCond rd12 (rSeq (rO (oMove rd6) wL0 <|
  rO (oMove (rdC (.oth 0 0 [] []))) w4 <|
  rO (oMove lo0) w5 <|
  rSkip) rRet) rSkip))) (rSeq (rO (oLoadN 2 rd2) wL0 <|
  rO (oLoadN 2 rd3) wL0 <|
  rO (oBuild [(.oth 1 0 [] []), (.int 3 (.ofNat 0)), (.oth 1 0 [] []), (.int 3 (.ofNat 0))] [(0, 2, lo1), (2, 2, lo0)]) wL0 <|
  rO (oBuild [(.oth 1 0 [] []), (.int 3 (.ofNat 0)), (.oth 1 0 [] []), (.int 3 (.ofNat 0)), (.oth 6 0 [] [])] [(0, 4, lo0), (4, 1, (rdC (.oth 4 384 [] [])))]) wL0 <|
  rO (oBox lo0) wL0 <|
  rO (oMove lo0) w4 <|
  rO (oMove (rdC (.int 3 (.ofNat 0)))) w5 <|
  rSkip) rRet)))
def d377 : DF := .mk [w0, w1] (resT rd4 (resT rd5 resNil)) c377
def c378 : Run :=
  (rSeq (rO (oAlloc (mkCells [(.oth 1 0 [] [])])) w2 <|
  rO (oAlloc (mkCells [(.int 3 (.ofNat 0)), (.int 3 (.ofNat 0))])) w3 <|
  rO (oAlloc (mkCells [(.bool false)])) w4 <|
  rSkip) (rSeq (rO (oMove rd0) wL0 <|
  rO (oMkFn 385 [lo0] []) wL0 <|
  rO (oAlloc (mkCells [(.oth 6 0 [] [])])) w5 <|
  rO (oStore1 rd5 lo0) wN <|
  rSkip) (rSeq rSkip (rSeq (rSeq (rO (oMove rd0) wL0 <|
  rCall 386 [lo0] w11 <|
  rSkip) (rBlock 0 (rRange rd11 6))) (rSeq (rO (oLoad1 rd2) wL0 <|
  rO (oLoadN 2 rd3) wL0 <|
  rO (oLoad1 rd4) wL0 <|
  rO (oStore1 rd2 lo2) wN <|
  rChk (oLoad1 rd4) lo0 <|
  rChk (oLoadN 2 rd3) lo1 <|
  rO (oStoreN 2 rd3 lo1) wN <|
  rChk (oLoad1 rd4) lo0 <|
  rO (oStore1 rd4 lo0) wN <|
  rSkip) rRet)))))
def d378 : DF := .mk [w0] (res1 rd2 (resN 2 rd3 (res1 rd4 resNil))) c378
def c379 : Run :=
  (rSeq (rO (oMkMap 8) wL0 <|
  rO (oMove lo0) w4 <|
  rSkip) (rSeq (rO (oMove (rdC (.int 3 (.ofNat 0)))) w5 <|
  rSkip) (rBlock 0 (rLoop (rSeq (rSeq (rO (oMove rd5) wL0 <|
  rO (oLoad1 rd1) wL0 <|
  rO (oLenV lo0) wL0 <|
  rO (oI ibLss lo2 lo0) w11 <|
  rSkip) (rCond rd11 rSkip (rExit 0))) (rSeq (rBlock 1 (rSeq (rO (oLoad1 rd1) wL0 <|
  rO (oMove rd5) wL0 <|
  rO (oIndexAddrV 1 lo1 lo0) wL0 <|
  rO (oLoad1 lo0) wL0 <|
  rO (oMove lo0) w6 <|
  rSkip) (rSeq (rSeq (rO (oMove rd4) wL0 <|
  rO (oMove rd6) wL0 <|
  rO (oLookup 8 (.bool false) lo1 lo0) w20 <|
  rSkip) (rCond rd20 (rExit 1) rSkip)) (rSeq (rO (oMove rd4) wL0 <|
  rO (oMove rd6) wL0 <|
  rO (oMapUpd 8 lo1 lo0 (rdC (.bool true))) wN <|
  rSkip) (rSeq (rSeq (rO (oMove rd0) wL0 <|
  rO (oMove rd6) wL0 <|
  rCallV lo1 [lo0] wL0 <|
  rO (oNot lo0) w26 <|
  rSkip) (rCond rd26 rRet rSkip)) (rBlock 2 (rSeq (rO (oMove rd6) wL0 <|
  rO (oI ibGeq lo0 (rdC (.int 3 (.ofNat 0)))) wL0 <|
  rO (oMove lo0) w27 <|
  rSkip) (rCond rd27 (rO (oLoad1 rd1) wL0 <|
  rO (oLoad1 rd2) wL0 <|
  rO (oNilCheck lo0) wL0 <|
  rO (oFieldAddr 0 lo0) wL0 <|
  rO (oFieldAddr 0 lo0) wL0 <|
  rO (oLoad1 lo0) wL0 <|
  rO (oMove rd6) wL0 <|
  rO (oIndexAddrV 2 lo1 lo0) wL0 <|
  rO (oFieldAddr 1 lo0) wL0 <|
  rO (oLoad1 lo0) wL0 <|
  rO (oAppend 1 lo9 lo0) wL0 <|
  rO (oStore1 rd1 lo0) wN <|
  rSkip) (rSeq (rO (oLoad1 rd2) wL0 <|
  rO (oNilCheck lo0) wL0 <|
  rO (oFieldAddr 0 lo0) wL0 <|
  rO (oFieldAddr 1 lo0) wL0 <|
  rO (oLoad1 lo0) wL0 <|
  rO (oMove rd6) wL0 <|
  rO (oNeg lo0) wL0 <|
  rO (oI ibSub lo0 (rdC (.int 3 (.ofNat 1)))) wL0 <|
  rO (oIndexAddrV 5 lo3 lo0) wL0 <|
  rO (oFieldAddr 3 lo0) wL0 <|
  rO (oLoad1 lo0) wL0 <|
  rO (oMove lo0) w41 <|
  rSkip) (rCond rd41 (rO (oLoad1 rd1) wL0 <|
  rO (oLoad1 rd2) wL0 <|
  rO (oNilCheck lo0) wL0 <|
  rO (oFieldAddr 0 lo0) wL0 <|
  rO (oFieldAddr 1 lo0) wL0 <|
  rO (oLoad1 lo0) wL0 <|
  rO (oMove rd6) wL0 <|
  rO (oNeg lo0) wL0 <|
  rO (oI ibSub lo0 (rdC (.int 3 (.ofNat 1)))) wL0 <|
  rO (oIndexAddrV 5 lo3 lo0) wL0 <|
  rO (oFieldAddr 4 lo0) wL0 <|
  rO (oLoad1 lo0) wL0 <|
  rO (oBuildSlice 1 [(.int 3 (.ofNat 0))] [(0, 1, lo0)]) wL0 <|
  rO (oAppend 1 lo12 lo0) wL0 <|
  rO (oStore1 rd1 lo0) wN <|
  rSkip) rSkip)))))))))) (rO (oMove rd5) wL0 <|
  rO (oI ibAdd lo0 (rdC (.int 3 (.ofNat 1)))) wL0 <|
  rO (oMove lo0) w5 <|
  rSkip)))))))
def d379 : DF := .mk [w0, w1, w2] resNil c379
def c384 : Run :=
  (rSeq (rO (oBox rd0) w2 <|
  rO (oBox rd1) w3 <|
  rO (oMove (rdC (.int 3 (.ofNat 0)))) w4 <|
  rSkip) (rSeq (rSeq (rO (oFieldAddr 0 rd2) wL0 <|
  rO (oLoad1 lo0) wL0 <|
  rO (oFieldAddr 0 rd3) wL0 <|
  rO (oLoad1 lo0) wL0 <|
  rCall 388 [lo2, lo0] wL0 <|
  rO (oMove lo0) w5 <|
  rSkip) (rSeq (rO (oMove rd5) wL0 <|
  rO (oI ibNeq lo0 (rdC (.int 3 (.ofNat 0)))) w12 <|
  rSkip) (rCond rd12 (rSeq (rO (oMove rd5) wL0 <|
  rO (oMove lo0) w4 <|
  rSkip) rRet) rSkip))) (rSeq (rO (oFieldAddr 1 rd2) wL0 <|
  rO (oLoad1 lo0) wL0 <|
  rO (oLenV lo0) wL0 <|
  rO (oFieldAddr 1 rd3) wL0 <|
  rO (oLoad1 lo0) wL0 <|
  rO (oLenV lo0) wL0 <|
  rCall 138 [lo3, lo0] wL0 <|
  rO (oMove lo0) w4 <|
  rSkip) rRet)))
def d384 : DF := .mk [w0, w1] (resT rd4 resNil) c384
def c385 : Run :=
  (rSeq (rO (oBox rd1) w3 <|
  rO (oMove (rdC (.bool false))) w4 <|
  rSkip) (rSeq (rO (oMove rd0) wL0 <|
  rO (oLoadN 2 rd3) wL0 <|
  rCall 389 [lo1, lo0] wL0 <|
  rO (oMove lo0) wL0 <|
  rO (oExtract 0 lo0) wL0 <|
  rO (oExtract 1 lo1) wL0 <|
  rO (oAlloc (mkCells [(.str 0 0), (.oth 1 0 [] [])])) w5 <|
  rO (oAlloc (mkCells [(.str 0 0), (.oth 1 0 [] [])])) w6 <|
  rO (oStoreN 2 rd5 lo1) wN <|
  rO (oStoreN 2 rd6 lo0) wN <|
  rSkip) (rSeq (rO (oFieldAddr 0 rd5) wL0 <|
  rO (oLoad1 lo0) wL0 <|
  rO (oFieldAddr 0 rd6) wL0 <|
  rO (oLoad1 lo0) wL0 <|
  rO (oS sbNeq lo2 lo0) wL0 <|
  rO (oMove lo0) wL0 <|
  rG lo0 false wL0 (rO (oFieldAddr 1 rd5) wL0) <|
  rG lo1 false wL0 (rO (oLoad1 lo0) wL0) <|
  rG lo2 false wL0 (rO (oLenV lo0) wL0) <|
  rG lo3 false wL0 (rO (oFieldAddr 1 rd6) wL0) <|
  rG lo4 false wL0 (rO (oLoad1 lo0) wL0) <|
  rG lo5 false wL0 (rO (oLenV lo0) wL0) <|
  rG lo6 false wL0 (rO (oI ibNeq lo3 lo0) wL0) <|
  rO (oPick lo7 (rdC (.bool true)) lo0) wL0 <|
  rO (oMove lo0) w4 <|
  rSkip) rRet)))
def d385 : DF := .mk [w0, w1] (resT rd4 resNil) c385
def c386 : Run :=
  (rSeq (rO (oBox rd0) w1 <|
  rO (oMove (rdC (.oth 6 0 [] []))) w2 <|
  rSkip) (rSeq (rO (oMkFn 390 [] [rd1]) wL0 <|
  rO (oMove lo0) w2 <|
  rSkip) rRet))
def d386 : DF := .mk [w0] (resT rd2 resNil) c386
def c388 : Run :=
  (rSeq (rO (oMove (rdC (.int 3 (.ofNat 0)))) w4 <|
  rSkip) (rSeq (rO (oMove rd0) wL0 <|
  rCall 393 [lo0] wL0 <|
  rO (oMove lo0) w5 <|
  rSkip) (rSeq (rO (oMove rd1) wL0 <|
  rCall 393 [lo0] wL0 <|
  rO (oMove lo0) w6 <|
  rSkip) (rSeq (rSeq (rO (oMove rd5) w11 <|
  rSkip) (rCond rd11 (rSeq (rSeq (rO (oMove rd6) w12 <|
  rSkip) (rCond rd12 (rSeq (rO (oMove (rdC (.int 3 (.ofNat 0)))) w4 <|
  rSkip) rRet) rSkip)) (rSeq (rO (oMove (rdC (.int 3 (.negSucc 0)))) w4 <|
  rSkip) rRet)) rSkip)) (rSeq (rSeq (rO (oMove rd6) w13 <|
  rSkip) (rCond rd13 (rSeq (rO (oMove (rdC (.int 3 (.ofNat 1)))) w4 <|
  rSkip) rRet) rSkip)) (rSeq (rSeq (rO (oMove rd0) wL0 <|
  rO (oMove rd1) wL0 <|
  rO (oS sbLss lo1 lo0) w16 <|
  rSkip) (rCond rd16 (rSeq (rO (oMove (rdC (.int 3 (.negSucc 0)))) w4 <|
  rSkip) rRet) rSkip)) (rSeq (rSeq (rO (oMove rd0) wL0 <|
  rO (oMove rd1) wL0 <|
  rO (oS sbGtr lo1 lo0) w19 <|
  rSkip) (rCond rd19 (rSeq (rO (oMove (rdC (.int 3 (.ofNat 1)))) w4 <|
  rSkip) rRet) rSkip)) (rSeq (rO (oMove (rdC (.int 3 (.ofNat 0)))) w4 <|
  rSkip) rRet))))))))
def d388 : DF := .mk [w0, w1] (resT rd4 resNil) c388
def c389 : Run :=
  (rSeq (rO (oBox rd1) w3 <|
  rO (oAlloc (mkCells [(.str 0 0), (.oth 1 0 [] [])])) w4 <|
  rO (oAlloc (mkCells [(.str 0 0), (.oth 1 0 [] [])])) w5 <|
  rSkip) (rSeq (rO (oMove rd0) wL0 <|
  rO (oNilCheck lo0) wL0 <|
  rO (oFieldAddr 0 lo0) wL0 <|
  rO (oFieldAddr 0 lo0) wL0 <|
  rO (oFieldAddr 0 lo0) wL0 <|
  rO (oLoad1 lo0) wL0 <|
  rO (oIndexAddrA 2 1 rd3 (rdC (.int 3 (.ofNat 0)))) wL0 <|
  rO (oLoad1 lo0) wL0 <|
  rO (oIndexAddrV 2 lo2 lo0) wL0 <|
  rO (oLoadN 2 lo0) wL0 <|
  rO (oMove rd0) wL0 <|
  rO (oNilCheck lo0) wL0 <|
  rO (oFieldAddr 0 lo0) wL0 <|
  rO (oFieldAddr 2 lo0) wL0 <|
  rO (oFieldAddr 0 lo0) wL0 <|
  rO (oLoad1 lo0) wL0 <|
  rO (oIndexAddrA 2 1 rd3 (rdC (.int 3 (.ofNat 1)))) wL0 <|
  rO (oLoad1 lo0) wL0 <|
  rO (oIndexAddrV 2 lo2 lo0) wL0 <|
  rO (oLoadN 2 lo0) wL0 <|
  rO (oStoreN 2 rd4 lo10) wN <|
  rChk (oLoadN 2 lo1) lo0 <|
  rChk (oLoad1 lo3) lo2 <|
  rChk (oLoad1 lo5) lo4 <|
  rO (oStoreN 2 rd5 lo0) wN <|
  rSkip) rRet))
def d389 : DF := .mk [w0, w1] (resN 2 rd4 (resN 2 rd5 resNil)) c389
def c390 : Run :=
  (rSeq (rO (oLoad1 rd1) wL0 <|
  rO (oNilCheck lo0) wL0 <|
  rO (oFieldAddr 0 lo0) wL0 <|
  rO (oFieldAddr 0 lo0) wL0 <|
  rO (oFieldAddr 1 lo0) wL0 <|
  rO (oLoad1 lo0) wL0 <|
  rO (oLoad1 rd1) wL0 <|
  rO (oNilCheck lo0) wL0 <|
  rO (oFieldAddr 0 lo0) wL0 <|
  rO (oFieldAddr 2 lo0) wL0 <|
  rO (oFieldAddr 1 lo0) wL0 <|
  rO (oLoad1 lo0) wL0 <|
  rO (oBuild [(.int 3 (.ofNat 0)), (.int 3 (.ofNat 0))] [(0, 1, lo6), (1, 1, lo0)]) wL0 <|
  rO (oBuild [(.int 3 (.ofNat 0)), (.int 3 (.ofNat 0)), (.oth 1 0 [] [])] [(0, 2, lo0), (2, 1, (rdC (.oth 1 0 [] [])))]) wL0 <|
  rO (oBuildSlice 1 [(.int 3 (.ofNat 0)), (.int 3 (.ofNat 0)), (.oth 1 0 [] [])] [(0, 3, lo0)]) wL0 <|
  rO (oMove lo0) w3 <|
  rSkip) (rSeq (rO (oMkMap 137) wL0 <|
  rO (oMove rd3) wL0 <|
  rO (oIndexAddrV 3 lo0 (rdC (.int 3 (.ofNat 0)))) wL0 <|
  rO (oFieldAddr 0 lo0) wL0 <|
  rO (oLoadN 2 lo0) wL0 <|
  rO (oMapUpd 137 lo4 lo0 (rdC (.bool true))) wN <|
  rO (oMove lo4) wL0 <|
  rO (oMove lo0) w4 <|
  rSkip) (rBlock 0 (rLoop (rSeq (rSeq (rO (oMove rd3) wL0 <|
  rO (oLenV lo0) wL0 <|
  rO (oI ibGtr lo0 (rdC (.int 3 (.ofNat 0)))) w31 <|
  rSkip) (rCond rd31 rSkip (rExit 0))) (rBlock 1 (rSeq (rO (oMove rd3) wL0 <|
  rO (oIndexAddrV 3 lo0 (rdC (.int 3 (.ofNat 0)))) wL0 <|
  rO (oLoadN 3 lo0) wL0 <|
  rO (oAlloc (mkCells [(.int 3 (.ofNat 0)), (.int 3 (.ofNat 0)), (.oth 1 0 [] [])])) w5 <|
  rO (oStoreN 3 rd5 lo0) wN <|
  rSkip) (rSeq (rO (oMove rd3) wL0 <|
  rO (oSliceV 3 lo0 (some (rdC (.int 3 (.ofNat 1)))) none) wL0 <|
  rO (oMove lo0) w3 <|
  rSkip) (rSeq (rSeq (rO (oMove rd0) wL0 <|
  rO (oFieldAddr 0 rd5) wL0 <|
  rO (oLoadN 2 lo0) wL0 <|
  rO (oFieldAddr 2 rd5) wL0 <|
  rO (oLoad1 lo0) wL0 <|
  rCallV lo4 [lo2, lo0] wL0 <|
  rO (oNot lo0) w43 <|
  rSkip) (rCond rd43 rRet rSkip)) (rSeq (rSeq (rO (oLoad1 rd1) wL0 <|
  rO (oFieldAddr 0 rd5) wL0 <|
  rO (oLoadN 2 lo0) wL0 <|
  rCall 385 [lo2, lo0] w47 <|
  rSkip) (rCond rd47 (rExit 1) rSkip)) (rSeq (rO (oLoad1 rd1) wL0 <|
  rO (oFieldAddr 0 rd5) wL0 <|
  rO (oLoadN 2 lo0) wL0 <|
  rCall 391 [lo2, lo0] w51 <|
  rO (oLenV rd51) w52 <|
  rO (oMove (rdC (.int 3 (.ofNat 0)))) w53 <|
  rSkip) (rBlock 2 (rLoop (rSeq (rO (oI ibLss rd53 rd52) w54 <|
  rSkip) (rSeq (rCond rd54 rSkip (rExit 2)) (rSeq (rBlock 3 (rSeq (rO (oMove rd53) wL0 <|
  rO (oIndexAddrV 2 rd51 rd53) wL0 <|
  rO (oLoadN 2 lo0) wL0 <|
  rO (oAlloc (mkCells [(.int 3 (.ofNat 0)), (.int 3 (.ofNat 0))])) w7 <|
  rO (oMove lo2) w6 <|
  rO (oStoreN 2 rd7 lo0) wN <|
  rSkip) (rSeq (rO (oMove rd4) wL0 <|
  rO (oLoadN 2 rd7) wL0 <|
  rO (oLookup 137 (.bool false) lo1 lo0) wL0 <|
  rO (oNot lo0) w61 <|
  rSkip) (rCond rd61 (rSeq (rO (oMove rd4) wL0 <|
  rO (oLoadN 2 rd7) wL0 <|
  rO (oMapUpd 137 lo1 lo0 (rdC (.bool true))) wN <|
  rSkip) (rO (oMove rd3) wL0 <|
  rO (oLoadN 2 rd7) wL0 <|
  rO (oFieldAddr 2 rd5) wL0 <|
  rO (oLoad1 lo0) wL0 <|
  rO (oMove rd6) wL0 <|
  rO (oBuildSlice 1 [(.int 3 (.ofNat 0))] [(0, 1, lo0)]) wL0 <|
  rCall 40 [lo2] wL0 <|
  rChkA (fun e => fills [(0, 1, lo2)] e [(.int 3 (.ofNat 0))]) lo1 <|
  rChk (oLoadN 2 rd7) lo5 <|
  rO (oAppend 1 lo0 lo1) wL0 <|
  rChk (oLoadN 2 rd7) lo6 <|
  rO (oBuild [(.int 3 (.ofNat 0)), (.int 3 (.ofNat 0)), (.oth 1 0 [] [])] [(0, 2, lo6), (2, 1, lo0)]) wL0 <|
  rO (oBuildSlice 1 [(.int 3 (.ofNat 0)), (.int 3 (.ofNat 0)), (.oth 1 0 [] [])] [(0, 3, lo0)]) wL0 <|
  rO (oAppend 3 lo9 lo0) wL0 <|
  rO (oMove lo0) w3 <|
  rSkip)) rSkip)))) (rO (oI ibAdd rd53 (rdC (.int 3 (.ofNat 1)))) wL0 <|
  rO (oMove lo0) w53 <|
  rSkip)))))))))))))))))
def d390 : DF := .mk [w0, w1] resNil c390
def c391 : Run :=
  (rSeq (rO (oBox rd1) w3 <|
  rO (oMove (rdC (.oth 1 0 [] []))) w4 <|
  rSkip) (rSeq (rO (oMove rd0) wL0 <|
  rO (oLoadN 2 rd3) wL0 <|
  rCall 389 [lo1, lo0] wL0 <|
  rO (oMove lo0) wL0 <|
  rO (oExtract 0 lo0) wL0 <|
  rO (oExtract 1 lo1) wL0 <|
  rO (oAlloc (mkCells [(.str 0 0), (.oth 1 0 [] [])])) w5 <|
  rO (oAlloc (mkCells [(.str 0 0), (.oth 1 0 [] [])])) w6 <|
  rO (oStoreN 2 rd5 lo1) wN <|
  rO (oStoreN 2 rd6 lo0) wN <|
  rSkip) (rSeq (rO (oMove (rdC (.oth 1 0 [] []))) w7 <|
  rSkip) (rSeq (rSeq (rO (oFieldAddr 1 rd5) wL0 <|
  rO (oLoad1 lo0) wL0 <|
  rO (oLenV lo0) w17 <|
  rO (oMove (rdC (.int 3 (.ofNat 0)))) w18 <|
  rSkip) (rBlock 0 (rLoop (rSeq (rO (oI ibLss rd18 rd17) w19 <|
  rSkip) (rSeq (rCond rd19 rSkip (rExit 0)) (rSeq (rBlock 1 (rSeq (rO (oMove rd18) wL0 <|
  rO (oMove lo0) w8 <|
  rSkip) (rO (oMove rd7) wL0 <|
  rO (oFieldAddr 1 rd5) wL0 <|
  rO (oLoad1 lo0) wL0 <|
  rO (oMove rd8) wL0 <|
  rO (oIndexAddrV 1 lo1 lo0) wL0 <|
  rO (oLoad1 lo0) wL0 <|
  rO (oFieldAddr 1 rd6) wL0 <|
  rO (oLoad1 lo0) wL0 <|
  rO (oMove rd8) wL0 <|
  rO (oIndexAddrV 1 lo1 lo0) wL0 <|
  rO (oLoad1 lo0) wL0 <|
  rO (oBuild [(.int 3 (.ofNat 0)), (.int 3 (.ofNat 0))] [(0, 1, lo5), (1, 1, lo0)]) wL0 <|
  rO (oBuildSlice 1 [(.int 3 (.ofNat 0)), (.int 3 (.ofNat 0))] [(0, 2, lo0)]) wL0 <|
  rO (oAppend 2 lo12 lo0) wL0 <|
  rO (oMove lo0) w7 <|
  rSkip))) (rO (oI ibAdd rd18 (rdC (.int 3 (.ofNat 1)))) wL0 <|
  rO (oMove lo0) w18 <|
  rSkip))))))) (rSeq (rO (oMove rd7) wL0 <|
  rO (oMove lo0) w4 <|
  rSkip) rRet)))))
def d391 : DF := .mk [w0, w1] (resT rd4 resNil) c391
def c393 : Run :=
  (rSeq (rO (oMove (rdC (.bool false))) w2 <|
  rSkip) (rSeq (rO (oMove rd0) wL0 <|
  rO (oMove rd0) wL0 <|
  rO (oS sbNeq lo1 lo0) wL0 <|
  rO (oMove lo0) w2 <|
  rSkip) rRet))
def d393 : DF := .mk [w0] (resT rd2 resNil) c393
def c410 : Run :=
  (rSeq (rO (oBox rd0) wL0 <|
  rO (oMove (rdC (.int 3 (.ofNat 0)))) w2 <|
  rSkip) (rSeq (rO (oMove (rdC (.int 3 (.negSucc 0)))) w2 <|
  rSkip) rRet))
def d410 : DF := .mk [w0] (resT rd2 resNil) c410
def c411 : Run :=
  (rSeq (rO (oBox rd0) wL0 <|
  rO (oMove (rdC (.int 3 (.ofNat 0)))) w2 <|
  rSkip) (rSeq (rO (oMove (rdC (.int 3 (.negSucc 0)))) w2 <|
  rSkip) rRet))
def d411 : DF := .mk [w0] (resT rd2 resNil) c411
def c412 : Run :=
  (rSeq (rO (oBox rd0) wL0 <|
  rO (oMove (rdC (.int 3 (.ofNat 0)))) w2 <|
  rSkip) (rSeq (rO (oMove (rdC (.int 3 (.negSucc 0)))) w2 <|
  rSkip) rRet))
def d412 : DF := .mk [w0] (resT rd2 resNil) c412
def site1 : Site := .mk [w17, w18] (rSeq (rO (oMove rd17) w7 <|
  rSkip) (rO (oAlloc (mkCells [(.oth 1 0 [] []), (.oth 1 0 [] []), (.oth 1 0 [] []), (.int 3 (.ofNat 0)), (.int 3 (.ofNat 0)), (.int 3 (.ofNat 0)), (.bool false), (.bool false), (.int 3 (.ofNat 0)), (.int 3 (.ofNat 0)), (.oth 1 0 [] []), (.bool false), (.int 3 (.ofNat 0)), (.oth 1 0 [] [])])) w8 <|
  rO (oStoreN 14 rd8 rd18) wN <|
  rSkip)) (rBlock 1 (rO (oLoad1 rd6) wL0 <|
  rO (oFieldAddr 0 rd8) wL0 <|
  rO (oFieldAddr 2 lo0) wL0 <|
  rO (oLoad1 lo0) wL0 <|
  rO (oLenV lo0) wL0 <|
  rO (oMove rd7) wL0 <|
  rO (oI ibSub lo0 (rdC (.int 3 (.ofNat 1)))) wL0 <|
  rCallV lo6 [lo2, lo0] wL0 <|
  rSkip))
def site2 : Site := .mk [w9, w10] (rSeq (rO (oMove rd9) w4 <|
  rSkip) (rO (oAlloc (mkCells [(.oth 1 0 [] []), (.oth 1 0 [] []), (.oth 1 0 [] []), (.int 3 (.ofNat 0)), (.int 3 (.ofNat 0)), (.int 3 (.ofNat 0)), (.bool false), (.bool false), (.int 3 (.ofNat 0)), (.int 3 (.ofNat 0)), (.oth 1 0 [] []), (.bool false), (.int 3 (.ofNat 0)), (.oth 1 0 [] [])])) w5 <|
  rO (oStoreN 14 rd5 rd10) wN <|
  rSkip)) (rBlock 1 (rSeq (rO (oLoadN 14 rd5) wL0 <|
  rO (oMkFn 192 [lo0] []) wL0 <|
  rO (oMove lo0) w6 <|
  rSkip) (rO (oLoad1 rd3) wL0 <|
  rO (oMove rd6) wL0 <|
  rO (oMove rd4) wL0 <|
  rCallV lo1 [lo0] wL0 <|
  rChk (oLoad1 rd3) lo3 <|
  rO (oBuildSlice 1 [(.int 3 (.ofNat 0)), (.int 3 (.ofNat 0)), (.int 3 (.ofNat 0)), (.int 3 (.ofNat 0))] [(0, 4, lo0)]) wL0 <|
  rO (oAppend 4 lo4 lo0) wL0 <|
  rO (oStore1 rd3 lo0) wN <|
  rSkip)))
def site3 : Site := .mk [w21, w22] (rO (oAlloc (mkCells [(.oth 1 0 [] []), (.oth 1 0 [] []), (.oth 1 0 [] []), (.int 3 (.ofNat 0)), (.int 3 (.ofNat 0)), (.int 3 (.ofNat 0)), (.bool false), (.bool false), (.int 3 (.ofNat 0)), (.int 3 (.ofNat 0)), (.oth 1 0 [] []), (.bool false), (.int 3 (.ofNat 0)), (.oth 1 0 [] [])])) w7 <|
  rO (oStoreN 14 rd7 rd22) wN <|
  rSkip) (rBlock 1 (rO (oLoadN 14 rd7) wL0 <|
  rO (oStoreN 14 rd5 lo0) wN <|
  rSkip))
def site5 : Site := .mk [w12] (rO (oMove rd12) w5 <|
  rSkip) (rBlock 1 (rSeq (rO (oLoad1 rd2) wL0 <|
  rO (oMove rd5) wL0 <|
  rCall 368 [lo1, lo0] wL0 <|
  rO (oMove lo0) wL0 <|
  rO (oExtract 0 lo0) wL0 <|
  rO (oExtract 1 lo1) wL0 <|
  rO (oMove lo1) wL0 <|
  rO (oMove lo1) w7 <|
  rSkip) (rSeq (rO (oMove rd7) w19 <|
  rSkip) (rCond rd19 (rSeq (rO (oStore1 rd4 (rdC (.bool false))) wN <|
  rSkip) rRet) rSkip))))
def site6 : Site := .mk [w12, w13] (rSeq (rO (oAlloc (mkCells [(.int 3 (.ofNat 0)), (.int 3 (.ofNat 0))])) w6 <|
  rO (oStoreN 2 rd6 rd12) wN <|
  rSkip) (rO (oMove rd13) w7 <|
  rSkip)) (rBlock 1 (rSeq (rO (oLoad1 rd5) wL0 <|
  rO (oLoadN 2 rd6) wL0 <|
  rCallV lo1 [lo0] w16 <|
  rSkip) (rCond rd16 (rSeq (rO (oMove rd7) wL0 <|
  rO (oLoadN 2 rd6) wL0 <|
  rO (oStore1 rd2 lo1) wN <|
  rChk (oLoadN 2 rd6) lo0 <|
  rO (oStoreN 2 rd3 lo0) wN <|
  rO (oStore1 rd4 (rdC (.bool true))) wN <|
  rSkip) (rExit 0)) rSkip)))
end
end Dv
