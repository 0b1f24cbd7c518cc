/-
  The seat's functions in the evaluator (printed by a program of ours; that they are the program's is proved in the texts Fun..).
-/
import Derived.Test.YticmcblmkphiaaaGreatDoorEvA
set_option linter.unusedVariables false
set_option linter.unusedSimpArgs false
set_option linter.unusedSectionVars false
set_option maxRecDepth 100000
namespace Dv
noncomputable section
def c9 : Run :=
  (rSeq (rO (oMove (rdC (.bool false))) w0 <|
  rSkip) (rSeq (rCall 62 [] wL0 <|
  rCall 63 [] wL0 <|
  rO (oBuildSlice 1 [(.oth 1 0 [] []), (.int 3 (.ofNat 0))] [(0, 2, lo0)]) wL0 <|
  rCall 56 [lo2, (rdC (.str 1 102)), lo0] wL0 <|
  rO (oMove lo0) wL0 <|
  rO (oExtract 0 lo0) wL0 <|
  rO (oExtract 1 lo1) wL0 <|
  rO (oAlloc (mkCells [(.oth 1 0 [] []), (.oth 1 0 [] []), (.oth 1 0 [] []), (.oth 1 0 [] []), (.int 3 (.ofNat 0)), (.int 3 (.ofNat 0)), (.oth 1 0 [] [])])) w1 <|
  rO (oStoreN 7 rd1 lo1) wN <|
  rO (oMove lo0) w2 <|
  rSkip) (rSeq (rO (oLoadN 7 rd1) wL0 <|
  rCall 64 [lo0, (rdC (.int 3 (.ofNat 3)))] wL0 <|
  rO (oMove lo0) wL0 <|
  rO (oExtract 0 lo0) wL0 <|
  rO (oExtract 1 lo1) wL0 <|
  rO (oStoreN 7 rd1 lo1) wN <|
  rO (oMove lo0) w3 <|
  rSkip) (rSeq (rO (oLoadN 7 rd1) wL0 <|
  rCall 33 [lo0] wL0 <|
  rO (oMove lo0) wL0 <|
  rO (oExtract 0 lo0) wL0 <|
  rO (oExtract 1 lo1) wL0 <|
  rO (oMove lo1) w4 <|
  rO (oMove lo0) w5 <|
  rSkip) (rSeq (rCall 62 [] wL0 <|
  rCall 56 [lo0, (rdC (.str 1 103)), (rdC (.oth 1 0 [] []))] wL0 <|
  rO (oMove lo0) wL0 <|
  rO (oExtract 0 lo0) wL0 <|
  rO (oExtract 1 lo1) wL0 <|
  rO (oAlloc (mkCells [(.oth 1 0 [] []), (.oth 1 0 [] []), (.oth 1 0 [] []), (.oth 1 0 [] []), (.int 3 (.ofNat 0)), (.int 3 (.ofNat 0)), (.oth 1 0 [] [])])) w6 <|
  rO (oStoreN 7 rd6 lo1) wN <|
  rO (oMove lo0) w7 <|
  rSkip) (rSeq (rO (oLoadN 7 rd6) wL0 <|
  rO (oAlloc (mkCells [(.oth 1 0 [] []), (.oth 1 0 [] []), (.oth 1 0 [] []), (.oth 1 0 [] []), (.int 3 (.ofNat 0)), (.int 3 (.ofNat 0)), (.oth 1 0 [] [])])) w8 <|
  rO (oStoreN 7 rd8 lo0) wN <|
  rSkip) (rSeq (rO (oLoadN 7 rd6) wL0 <|
  rCall 65 [lo0] wL0 <|
  rO (oMove lo0) wL0 <|
  rO (oExtract 0 lo0) wL0 <|
  rO (oExtract 1 lo1) wL0 <|
  rO (oStoreN 7 rd6 lo1) wN <|
  rO (oMove lo0) w9 <|
  rSkip) (rSeq (rO (oLoadN 7 rd6) wL0 <|
  rO (oBuildSlice 2 [(.int 3 (.ofNat 0)), (.int 3 (.ofNat 0))] [(0, 1, (rdC (.int 3 (.ofNat 0)))), (1, 1, (rdC (.int 3 (.ofNat 0))))]) wL0 <|
  rCall 46 [lo1, lo0] wL0 <|
  rO (oMove lo0) wL0 <|
  rO (oExtract 0 lo0) wL0 <|
  rO (oExtract 1 lo1) wL0 <|
  rO (oMove lo1) w10 <|
  rO (oMove lo0) w11 <|
  rSkip) (rSeq (rO (oLoadN 7 rd6) wL0 <|
  rO (oBuildSlice 1 [(.int 3 (.ofNat 0))] [(0, 1, (rdC (.int 3 (.ofNat 0))))]) wL0 <|
  rCall 46 [lo1, lo0] wL0 <|
  rO (oMove lo0) wL0 <|
  rO (oExtract 0 lo0) wL0 <|
  rO (oExtract 1 lo1) wL0 <|
  rO (oMove lo1) w12 <|
  rO (oMove lo0) w13 <|
  rSkip) (rSeq (rCall 62 [] wL0 <|
  rCall 56 [lo0, (rdC (.str 4 1936027247)), (rdC (.oth 1 0 [] []))] wL0 <|
  rO (oMove lo0) wL0 <|
  rO (oExtract 0 lo0) wL0 <|
  rO (oExtract 1 lo1) wL0 <|
  rO (oAlloc (mkCells [(.oth 1 0 [] []), (.oth 1 0 [] []), (.oth 1 0 [] []), (.oth 1 0 [] []), (.int 3 (.ofNat 0)), (.int 3 (.ofNat 0)), (.oth 1 0 [] [])])) w14 <|
  rO (oStoreN 7 rd14 lo1) wN <|
  rO (oMove lo0) w15 <|
  rSkip) (rSeq (rSeq (rO (oMove (rdC (.bool false))) wL0 <|
  rG lo0 false wL0 (rO (oMove rd2) wL0) <|
  rG lo1 false wL0 (rO (oI ibNeq lo0 (rdC (.int 3 (.ofNat 0)))) wL0) <|
  rO (oPick lo2 (rdC (.bool true)) lo0) wL0 <|
  rO (oMove lo0) wL0 <|
  rG lo0 false wL0 (rO (oMove rd3) wL0) <|
  rG lo1 false wL0 (rO (oI ibNeq lo0 (rdC (.int 3 (.ofNat 0)))) wL0) <|
  rO (oPick lo2 (rdC (.bool true)) lo0) wL0 <|
  rO (oMove lo0) wL0 <|
  rG lo0 false wL0 (rO (oMove rd5) wL0) <|
  rG lo1 false wL0 (rO (oI ibNeq lo0 (rdC (.int 3 (.ofNat 0)))) wL0) <|
  rO (oPick lo2 (rdC (.bool true)) lo0) wL0 <|
  rO (oMove lo0) wL0 <|
  rG lo0 false wL0 (rO (oMove rd4) wL0) <|
  rG lo1 false wL0 (rO (oBuild [(.int 3 (.ofNat 0)), (.int 3 (.ofNat 0)), (.int 3 (.ofNat 0)), (.int 3 (.ofNat 0))] [(0, 1, (rdC (.int 3 (.ofNat 1)))), (1, 1, (rdC (.int 3 (.ofNat 1)))), (2, 1, (rdC (.int 3 (.ofNat 0)))), (3, 1, (rdC (.int 3 (.negSucc 0))))]) wL0) <|
  rG lo2 false wL0 (rO (oBuild [(.int 3 (.ofNat 0)), (.int 3 (.ofNat 0)), (.int 3 (.ofNat 0)), (.int 3 (.ofNat 0))] [(0, 1, (rdC (.int 3 (.ofNat 2)))), (1, 1, (rdC (.int 3 (.ofNat 4)))), (2, 1, (rdC (.int 3 (.ofNat 0)))), (3, 1, (rdC (.int 3 (.ofNat 0))))]) wL0) <|
  rG lo3 false wL0 (rO (oBuild [(.int 3 (.ofNat 0)), (.int 3 (.ofNat 0)), (.int 3 (.ofNat 0)), (.int 3 (.ofNat 0))] [(0, 1, (rdC (.int 3 (.ofNat 3)))), (1, 1, (rdC (.int 3 (.ofNat 7)))), (2, 1, (rdC (.int 3 (.ofNat 0)))), (3, 1, (rdC (.int 3 (.negSucc 0))))]) wL0) <|
  rG lo4 false wL0 (rO (oBuildSlice 3 [(.int 3 (.ofNat 0)), (.int 3 (.ofNat 0)), (.int 3 (.ofNat 0)), (.int 3 (.ofNat 0)), (.int 3 (.ofNat 0)), (.int 3 (.ofNat 0)), (.int 3 (.ofNat 0)), (.int 3 (.ofNat 0)), (.int 3 (.ofNat 0)), (.int 3 (.ofNat 0)), (.int 3 (.ofNat 0)), (.int 3 (.ofNat 0))] [(0, 4, lo2), (4, 4, lo1), (8, 4, lo0)]) wL0) <|
  rG lo5 false wL0 (rCall 38 [lo4, lo0] wL0) <|
  rG lo6 false wL0 (rO (oNot lo0) wL0) <|
  rO (oPick lo7 (rdC (.bool true)) lo0) wL0 <|
  rO (oMove lo0) wL0 <|
  rG lo0 false wL0 (rO (oMove rd7) wL0) <|
  rG lo1 false wL0 (rO (oI ibNeq lo0 (rdC (.int 3 (.ofNat 0)))) wL0) <|
  rO (oPick lo2 (rdC (.bool true)) lo0) wL0 <|
  rO (oMove lo0) wL0 <|
  rG lo0 false wL0 (rO (oMove rd9) wL0) <|
  rG lo1 false wL0 (rO (oI ibNeq lo0 (rdC (.int 3 (.ofNat 0)))) wL0) <|
  rO (oPick lo2 (rdC (.bool true)) lo0) wL0 <|
  rO (oMove lo0) wL0 <|
  rG lo0 false wL0 (rO (oMove rd11) wL0) <|
  rG lo1 false wL0 (rO (oI ibNeq lo0 (rdC (.int 3 (.ofNat 0)))) wL0) <|
  rO (oPick lo2 (rdC (.bool true)) lo0) wL0 <|
  rO (oMove lo0) wL0 <|
  rG lo0 false wL0 (rO (oMove rd10) wL0) <|
  rG lo1 false wL0 (rO (oNot lo0) wL0) <|
  rO (oPick lo2 (rdC (.bool true)) lo0) wL0 <|
  rO (oMove lo0) wL0 <|
  rG lo0 false wL0 (rO (oMove rd13) wL0) <|
  rG lo1 false wL0 (rO (oI ibNeq lo0 (rdC (.int 3 (.ofNat 0)))) wL0) <|
  rO (oPick lo2 (rdC (.bool true)) lo0) wL0 <|
  rO (oMove lo0) wL0 <|
  rG lo0 false wL0 (rO (oMove rd12) wL0) <|
  rO (oPick lo1 (rdC (.bool true)) lo0) wL0 <|
  rO (oMove lo0) wL0 <|
  rG lo0 false wL0 (rO (oMove rd15) wL0) <|
  rG lo1 false wL0 (rO (oI ibNeq lo0 (rdC (.int 3 (.ofNat 0)))) wL0) <|
  rO (oPick lo2 (rdC (.bool true)) lo0) w120 <|
  rSkip) (rCond rd120 (rSeq (rO (oMove (rdC (.bool false))) w0 <|
  rSkip) rRet) rSkip)) (rSeq (rO (oLoadN 7 rd1) wL0 <|
  rO (oLoadN 7 rd1) wL0 <|
  rO (oAlloc (mkCells [(.oth 1 0 [] []), (.oth 1 0 [] []), (.oth 1 0 [] []), (.oth 1 0 [] []), (.int 3 (.ofNat 0)), (.int 3 (.ofNat 0)), (.oth 1 0 [] [])])) w16 <|
  rO (oAlloc (mkCells [(.oth 1 0 [] []), (.oth 1 0 [] []), (.oth 1 0 [] []), (.oth 1 0 [] []), (.int 3 (.ofNat 0)), (.int 3 (.ofNat 0)), (.oth 1 0 [] [])])) w17 <|
  rO (oStoreN 7 rd16 lo1) wN <|
  rChk (oLoadN 7 rd1) lo0 <|
  rO (oStoreN 7 rd17 lo0) wN <|
  rSkip) (rSeq (rO (oFieldAddr 6 rd1) wL0 <|
  rO (oLoad1 lo0) wL0 <|
  rCall 66 [lo0] wL0 <|
  rO (oFieldAddr 6 rd16) wL0 <|
  rO (oStore1 lo0 lo1) wN <|
  rSkip) (rSeq (rO (oFieldAddr 6 rd1) wL0 <|
  rO (oLoad1 lo0) wL0 <|
  rO (oSliceV 8 lo0 none (some (rdC (.int 3 (.ofNat 2))))) wL0 <|
  rO (oFieldAddr 6 rd17) wL0 <|
  rO (oStore1 lo0 lo1) wN <|
  rSkip) (rSeq (rSeq (rO (oFieldAddr 6 rd16) wL0 <|
  rO (oLoad1 lo0) wL0 <|
  rO (oLenV lo0) wL0 <|
  rO (oI ibNeq lo0 (rdC (.int 3 (.ofNat 3)))) w134 <|
  rSkip) (rCond rd134 (rSeq (rO (oMove (rdC (.bool false))) w0 <|
  rSkip) rRet) rSkip)) (rSeq (rO (oFieldAddr 6 rd16) wL0 <|
  rO (oLoad1 lo0) wL0 <|
  rO (oFieldAddr 6 rd16) wL0 <|
  rO (oLoad1 lo0) wL0 <|
  rO (oIndexAddrV 8 lo0 (rdC (.int 3 (.ofNat 1)))) wL0 <|
  rO (oFieldAddr 6 lo0) wL0 <|
  rO (oLoad1 lo0) wL0 <|
  rO (oNot lo0) wL0 <|
  rO (oIndexAddrV 8 lo6 (rdC (.int 3 (.ofNat 1)))) wL0 <|
  rO (oFieldAddr 6 lo0) wL0 <|
  rO (oStore1 lo0 lo2) wN <|
  rSkip) (rSeq (rO (oLoadN 7 rd1) wL0 <|
  rCall 65 [lo0] wL0 <|
  rO (oMove lo0) wL0 <|
  rO (oExtract 0 lo0) wL0 <|
  rO (oExtract 1 lo1) wL0 <|
  rO (oMove lo0) w2 <|
  rSkip) (rSeq (rO (oLoadN 7 rd8) wL0 <|
  rCall 67 [lo0] wL0 <|
  rO (oMove lo0) wL0 <|
  rO (oExtract 0 lo0) wL0 <|
  rO (oExtract 1 lo1) wL0 <|
  rO (oMove lo0) w3 <|
  rSkip) (rSeq (rO (oLoadN 7 rd1) wL0 <|
  rCall 64 [lo0, (rdC (.int 3 (.ofNat 401)))] wL0 <|
  rO (oMove lo0) wL0 <|
  rO (oExtract 0 lo0) wL0 <|
  rO (oExtract 1 lo1) wL0 <|
  rO (oMove lo0) w5 <|
  rSkip) (rSeq (rO (oLoadN 7 rd1) wL0 <|
  rCall 64 [lo0, (rdC (.int 3 (.ofNat 4)))] wL0 <|
  rO (oMove lo0) wL0 <|
  rO (oExtract 0 lo0) wL0 <|
  rO (oExtract 1 lo1) wL0 <|
  rO (oMove lo0) w7 <|
  rSkip) (rSeq (rO (oLoadN 7 rd1) wL0 <|
  rCall 36 [lo0, (rdC (.int 3 (.ofNat 5)))] wL0 <|
  rO (oMove lo0) wL0 <|
  rO (oExtract 0 lo0) wL0 <|
  rO (oExtract 1 lo1) wL0 <|
  rO (oMove lo0) w9 <|
  rSkip) (rSeq (rO (oLoadN 7 rd1) wL0 <|
  rCall 34 [lo0, (rdC (.int 3 (.negSucc 0)))] wL0 <|
  rO (oMove lo0) wL0 <|
  rO (oExtract 0 lo0) wL0 <|
  rO (oExtract 1 lo1) wL0 <|
  rO (oMove lo0) w11 <|
  rSkip) (rSeq (rO (oLoadN 7 rd1) wL0 <|
  rCall 35 [lo0, (rdC (.int 3 (.ofNat 0)))] wL0 <|
  rO (oMove lo0) wL0 <|
  rO (oExtract 0 lo0) wL0 <|
  rO (oExtract 1 lo1) wL0 <|
  rO (oMove lo0) w13 <|
  rSkip) (rSeq (rO (oLoadN 7 rd14) wL0 <|
  rCall 61 [lo0, (rdC (.str 3 7305076))] wL0 <|
  rO (oMove lo0) wL0 <|
  rO (oExtract 0 lo0) wL0 <|
  rO (oExtract 1 lo1) wL0 <|
  rO (oMove lo0) w15 <|
  rSkip) (rSeq (rO (oLoadN 7 rd14) wL0 <|
  rCall 61 [lo0, (rdC (.str 1 103))] wL0 <|
  rO (oMove lo0) wL0 <|
  rO (oExtract 0 lo0) wL0 <|
  rO (oExtract 1 lo1) wL0 <|
  rO (oAlloc (mkCells [(.oth 1 0 [] []), (.oth 1 0 [] []), (.oth 1 0 [] []), (.oth 1 0 [] []), (.int 3 (.ofNat 0)), (.int 3 (.ofNat 0)), (.oth 1 0 [] [])])) wL0 <|
  rO (oStoreN 7 lo0 lo2) wN <|
  rO (oMove lo1) w19 <|
  rSkip) (rSeq (rO (oLoadN 7 rd14) wL0 <|
  rCall 44 [lo0] wL0 <|
  rO (oMove lo0) wL0 <|
  rO (oExtract 0 lo0) wL0 <|
  rO (oExtract 1 lo1) wL0 <|
  rO (oMove lo1) wL0 <|
  rO (oMove lo1) w21 <|
  rSkip) (rSeq (rO (oFieldAddr 1 rd8) wL0 <|
  rO (oLoadN 5 lo0) wL0 <|
  rO (oBuild [(.int 3 (.ofNat 0)), (.bool false), (.bool false), (.int 3 (.ofNat 0)), (.int 3 (.ofNat 0)), (.oth 1 0 [] []), (.bool false), (.int 3 (.ofNat 0))] []) wL0 <|
  rCall 22 [lo1, lo0] wL0 <|
  rO (oMove lo0) wL0 <|
  rO (oExtract 0 lo0) wL0 <|
  rO (oExtract 1 lo1) wL0 <|
  rO (oAlloc (mkCells [(.oth 1 0 [] []), (.oth 1 0 [] []), (.oth 1 0 [] []), (.int 3 (.ofNat 0)), (.int 3 (.ofNat 0))])) wL0 <|
  rO (oStoreN 5 lo0 lo2) wN <|
  rO (oMove lo1) w23 <|
  rSkip) (rSeq (rCall 62 [] wL0 <|
  rCall 56 [lo0, (rdC (.str 3 7305076)), (rdC (.oth 1 0 [] []))] wL0 <|
  rO (oMove lo0) wL0 <|
  rO (oExtract 0 lo0) wL0 <|
  rO (oExtract 1 lo1) wL0 <|
  rO (oAlloc (mkCells [(.oth 1 0 [] []), (.oth 1 0 [] []), (.oth 1 0 [] []), (.oth 1 0 [] []), (.int 3 (.ofNat 0)), (.int 3 (.ofNat 0)), (.oth 1 0 [] [])])) wL0 <|
  rO (oStoreN 7 lo0 lo2) wN <|
  rO (oMove lo1) w25 <|
  rSkip) (rSeq (rO (oFieldAddr 1 rd1) wL0 <|
  rO (oLoadN 5 lo0) wL0 <|
  rO (oAlloc (mkCells [(.int 3 (.ofNat 0)), (.bool false), (.bool false), (.int 3 (.ofNat 0)), (.int 3 (.ofNat 0)), (.oth 1 0 [] []), (.bool false), (.int 3 (.ofNat 0))])) wL0 <|
  rCall 62 [] wL0 <|
  rChkA (fun _ => [(.int 3 (.ofNat 0)), (.bool false), (.bool false), (.int 3 (.ofNat 0)), (.int 3 (.ofNat 0)), (.oth 1 0 [] []), (.bool false), (.int 3 (.ofNat 0))]) lo1 <|
  rChk (oLoadN 5 lo3) lo2 <|
  rCall 21 [lo0, lo2] wL0 <|
  rChkA (fun _ => [(.int 3 (.ofNat 0)), (.bool false), (.bool false), (.int 3 (.ofNat 0)), (.int 3 (.ofNat 0)), (.oth 1 0 [] []), (.bool false), (.int 3 (.ofNat 0))]) lo2 <|
  rO (oMove lo0) wL0 <|
  rO (oExtract 0 lo0) wL0 <|
  rO (oExtract 1 lo1) wL0 <|
  rO (oStoreN 8 lo5 lo1) wN <|
  rO (oMove lo0) w27 <|
  rSkip) (rSeq (rO (oMove rd2) wL0 <|
  rO (oI ibEql lo0 (rdC (.int 3 (.ofNat 6)))) wL0 <|
  rO (oMove lo0) wL0 <|
  rG lo0 true wL0 (rO (oMove rd3) wL0) <|
  rG lo1 true wL0 (rO (oI ibEql lo0 (rdC (.int 3 (.ofNat 6)))) wL0) <|
  rO (oPick lo2 lo0 (rdC (.bool false))) wL0 <|
  rO (oMove lo0) wL0 <|
  rG lo0 true wL0 (rO (oMove rd5) wL0) <|
  rG lo1 true wL0 (rO (oI ibEql lo0 (rdC (.int 3 (.ofNat 3)))) wL0) <|
  rO (oPick lo2 lo0 (rdC (.bool false))) wL0 <|
  rO (oMove lo0) wL0 <|
  rG lo0 true wL0 (rO (oMove rd7) wL0) <|
  rG lo1 true wL0 (rO (oI ibEql lo0 (rdC (.int 3 (.ofNat 6)))) wL0) <|
  rO (oPick lo2 lo0 (rdC (.bool false))) wL0 <|
  rO (oMove lo0) wL0 <|
  rG lo0 true wL0 (rO (oMove rd9) wL0) <|
  rG lo1 true wL0 (rO (oI ibEql lo0 (rdC (.int 3 (.ofNat 1)))) wL0) <|
  rO (oPick lo2 lo0 (rdC (.bool false))) wL0 <|
  rO (oMove lo0) wL0 <|
  rG lo0 true wL0 (rO (oMove rd11) wL0) <|
  rG lo1 true wL0 (rO (oI ibEql lo0 (rdC (.int 3 (.ofNat 1)))) wL0) <|
  rO (oPick lo2 lo0 (rdC (.bool false))) wL0 <|
  rO (oMove lo0) wL0 <|
  rG lo0 true wL0 (rO (oMove rd13) wL0) <|
  rG lo1 true wL0 (rO (oI ibEql lo0 (rdC (.int 3 (.ofNat 6)))) wL0) <|
  rO (oPick lo2 lo0 (rdC (.bool false))) wL0 <|
  rO (oMove lo0) wL0 <|
  rG lo0 true wL0 (rO (oMove rd15) wL0) <|
  rG lo1 true wL0 (rO (oI ibEql lo0 (rdC (.int 3 (.ofNat 1)))) wL0) <|
  rO (oPick lo2 lo0 (rdC (.bool false))) wL0 <|
  rO (oMove lo0) wL0 <|
  rG lo0 true wL0 (rO (oMove rd19) wL0) <|
  rG lo1 true wL0 (rO (oI ibEql lo0 (rdC (.int 3 (.ofNat 6)))) wL0) <|
  rO (oPick lo2 lo0 (rdC (.bool false))) wL0 <|
  rO (oMove lo0) wL0 <|
  rG lo0 true wL0 (rO (oMove rd21) wL0) <|
  rG lo1 true wL0 (rO (oI ibEql lo0 (rdC (.int 3 (.ofNat 6)))) wL0) <|
  rO (oPick lo2 lo0 (rdC (.bool false))) wL0 <|
  rO (oMove lo0) wL0 <|
  rG lo0 true wL0 (rO (oMove rd23) wL0) <|
  rG lo1 true wL0 (rO (oI ibEql lo0 (rdC (.int 3 (.ofNat 14)))) wL0) <|
  rO (oPick lo2 lo0 (rdC (.bool false))) wL0 <|
  rO (oMove lo0) wL0 <|
  rG lo0 true wL0 (rO (oMove rd25) wL0) <|
  rG lo1 true wL0 (rO (oI ibEql lo0 (rdC (.int 3 (.ofNat 1)))) wL0) <|
  rO (oPick lo2 lo0 (rdC (.bool false))) wL0 <|
  rO (oMove lo0) wL0 <|
  rG lo0 true wL0 (rO (oMove rd27) wL0) <|
  rG lo1 true wL0 (rO (oI ibEql lo0 (rdC (.int 3 (.ofNat 6)))) wL0) <|
  rO (oPick lo2 lo0 (rdC (.bool false))) wL0 <|
  rO (oMove lo0) wL0 <|
  rG lo0 true wL0 (rO (oLoadN 7 rd16) wL0) <|
  rG lo1 true wL0 (rCall 68 [lo0] wL0) <|
  rG lo2 true wL0 (rO (oI ibEql lo0 (rdC (.int 3 (.ofNat 14)))) wL0) <|
  rO (oPick lo3 lo0 (rdC (.bool false))) wL0 <|
  rO (oMove lo0) wL0 <|
  rG lo0 true wL0 (rO (oLoadN 7 rd17) wL0) <|
  rG lo1 true wL0 (rCall 68 [lo0] wL0) <|
  rG lo2 true wL0 (rO (oI ibEql lo0 (rdC (.int 3 (.ofNat 2)))) wL0) <|
  rO (oPick lo3 lo0 (rdC (.bool false))) wL0 <|
  rO (oMove lo0) w274 <|
  rG rd274 true w275 (rCall 62 [] w275) <|
  rG rd274 true w276 (rO (oBuild [(.oth 1 0 [] []), (.oth 1 0 [] []), (.oth 1 0 [] []), (.oth 1 0 [] []), (.int 3 (.ofNat 0)), (.int 3 (.ofNat 0)), (.oth 1 0 [] [])] [(0, 1, rd275)]) w276) <|
  rG rd274 true w277 (rCall 68 [rd276] w277) <|
  rG rd274 true w278 (rO (oI ibEql rd277 (rdC (.int 3 (.ofNat 14)))) w278) <|
  rO (oPick rd274 rd278 (rdC (.bool false))) w279 <|
  rO (oMove rd279) w280 <|
  rG rd280 true w281 (rCall 16 [] w281) <|
  rO (oPick rd280 rd281 (rdC (.bool false))) w282 <|
  rO (oMove rd282) w0 <|
  rSkip) rRet))))))))))))))))))))))))))))))
def d9 : DF := .mk [] (resT rd0 resNil) c9
def c16 : Run :=
  (rSeq (rO (oMove (rdC (.bool false))) w0 <|
  rSkip) (rSeq (rCall 62 [] wL0 <|
  rCall 56 [lo0, (rdC (.str 4 1936027247)), (rdC (.oth 1 0 [] []))] wL0 <|
  rO (oMove lo0) wL0 <|
  rO (oExtract 0 lo0) wL0 <|
  rO (oExtract 1 lo1) wL0 <|
  rO (oAlloc (mkCells [(.oth 1 0 [] []), (.oth 1 0 [] []), (.oth 1 0 [] []), (.oth 1 0 [] []), (.int 3 (.ofNat 0)), (.int 3 (.ofNat 0)), (.oth 1 0 [] [])])) w1 <|
  rO (oStoreN 7 rd1 lo1) wN <|
  rO (oMove lo0) w2 <|
  rSkip) (rSeq (rO (oLoadN 7 rd1) wL0 <|
  rCall 64 [lo0, (rdC (.int 3 (.ofNat 4)))] wL0 <|
  rO (oMove lo0) wL0 <|
  rO (oExtract 0 lo0) wL0 <|
  rO (oExtract 1 lo1) wL0 <|
  rO (oStoreN 7 rd1 lo1) wN <|
  rO (oMove lo0) w3 <|
  rSkip) (rSeq (rO (oLoadN 7 rd1) wL0 <|
  rCall 33 [lo0] wL0 <|
  rO (oMove lo0) wL0 <|
  rO (oExtract 0 lo0) wL0 <|
  rO (oExtract 1 lo1) wL0 <|
  rO (oMove lo1) w4 <|
  rO (oMove lo0) w5 <|
  rSkip) (rSeq (rO (oLoadN 7 rd1) wL0 <|
  rCall 67 [lo0] wL0 <|
  rO (oMove lo0) wL0 <|
  rO (oExtract 0 lo0) wL0 <|
  rO (oExtract 1 lo1) wL0 <|
  rO (oAlloc (mkCells [(.oth 1 0 [] []), (.oth 1 0 [] []), (.oth 1 0 [] []), (.oth 1 0 [] []), (.int 3 (.ofNat 0)), (.int 3 (.ofNat 0)), (.oth 1 0 [] [])])) w6 <|
  rO (oStoreN 7 rd6 lo1) wN <|
  rO (oMove lo0) w7 <|
  rSkip) (rSeq (rO (oLoadN 7 rd1) wL0 <|
  rCall 36 [lo0, (rdC (.int 3 (.ofNat 1)))] wL0 <|
  rO (oMove lo0) wL0 <|
  rO (oExtract 0 lo0) wL0 <|
  rO (oExtract 1 lo1) wL0 <|
  rO (oMove lo1) w8 <|
  rO (oMove lo0) w9 <|
  rSkip) (rSeq (rO (oLoadN 7 rd1) wL0 <|
  rCall 35 [lo0, (rdC (.int 3 (.ofNat 0)))] wL0 <|
  rO (oMove lo0) wL0 <|
  rO (oExtract 0 lo0) wL0 <|
  rO (oExtract 1 lo1) wL0 <|
  rO (oMove lo1) w10 <|
  rO (oMove lo0) w11 <|
  rSkip) (rSeq (rO (oLoadN 7 rd1) wL0 <|
  rCall 37 [lo0] wL0 <|
  rO (oMove lo0) wL0 <|
  rO (oExtract 0 lo0) wL0 <|
  rO (oExtract 1 lo1) wL0 <|
  rO (oExtract 2 lo2) wL0 <|
  rO (oMove lo2) w12 <|
  rO (oMove lo1) w13 <|
  rO (oMove lo0) w14 <|
  rSkip) (rSeq (rCall 62 [] wL0 <|
  rCall 63 [] wL0 <|
  rO (oBuildSlice 1 [(.oth 1 0 [] []), (.int 3 (.ofNat 0))] [(0, 2, lo0)]) wL0 <|
  rCall 56 [lo2, (rdC (.str 1 102)), lo0] wL0 <|
  rO (oMove lo0) wL0 <|
  rO (oExtract 0 lo0) wL0 <|
  rO (oExtract 1 lo1) wL0 <|
  rO (oAlloc (mkCells [(.oth 1 0 [] []), (.oth 1 0 [] []), (.oth 1 0 [] []), (.oth 1 0 [] []), (.int 3 (.ofNat 0)), (.int 3 (.ofNat 0)), (.oth 1 0 [] [])])) w15 <|
  rO (oStoreN 7 rd15 lo1) wN <|
  rO (oMove lo0) w16 <|
  rSkip) (rSeq (rO (oLoadN 7 rd15) wL0 <|
  rCall 64 [lo0, (rdC (.int 3 (.ofNat 3)))] wL0 <|
  rO (oMove lo0) wL0 <|
  rO (oExtract 0 lo0) wL0 <|
  rO (oExtract 1 lo1) wL0 <|
  rO (oStoreN 7 rd15 lo1) wN <|
  rO (oMove lo0) w17 <|
  rSkip) (rSeq (rO (oLoadN 7 rd15) wL0 <|
  rCall 44 [lo0] wL0 <|
  rO (oMove lo0) wL0 <|
  rO (oExtract 0 lo0) wL0 <|
  rO (oExtract 1 lo1) wL0 <|
  rO (oMove lo1) w18 <|
  rO (oMove lo0) w19 <|
  rSkip) (rSeq (rO (oLoadN 7 rd15) wL0 <|
  rCall 45 [lo0] wL0 <|
  rO (oMove lo0) wL0 <|
  rO (oExtract 0 lo0) wL0 <|
  rO (oExtract 1 lo1) wL0 <|
  rO (oMove lo1) w20 <|
  rO (oMove lo0) w21 <|
  rSkip) (rSeq (rO (oLoadN 7 rd15) wL0 <|
  rO (oBuildSlice 1 [(.int 3 (.ofNat 0))] [(0, 1, (rdC (.int 3 (.ofNat 0))))]) wL0 <|
  rCall 46 [lo1, lo0] wL0 <|
  rO (oMove lo0) wL0 <|
  rO (oExtract 0 lo0) wL0 <|
  rO (oExtract 1 lo1) wL0 <|
  rO (oMove lo1) w22 <|
  rO (oMove lo0) w23 <|
  rSkip) (rSeq (rO (oLoadN 7 rd15) wL0 <|
  rO (oBuildSlice 2 [(.int 3 (.ofNat 0)), (.int 3 (.ofNat 0))] [(0, 1, (rdC (.int 3 (.ofNat 0)))), (1, 1, (rdC (.int 3 (.ofNat 0))))]) wL0 <|
  rCall 46 [lo1, lo0] wL0 <|
  rO (oMove lo0) wL0 <|
  rO (oExtract 0 lo0) wL0 <|
  rO (oExtract 1 lo1) wL0 <|
  rO (oMove lo1) w24 <|
  rO (oMove lo0) w25 <|
  rSkip) (rSeq (rSeq (rO (oMove rd2) wL0 <|
  rO (oI ibNeq lo0 (rdC (.int 3 (.ofNat 0)))) wL0 <|
  rO (oMove lo0) wL0 <|
  rG lo0 false wL0 (rO (oMove rd3) wL0) <|
  rG lo1 false wL0 (rO (oI ibNeq lo0 (rdC (.int 3 (.ofNat 0)))) wL0) <|
  rO (oPick lo2 (rdC (.bool true)) lo0) wL0 <|
  rO (oMove lo0) wL0 <|
  rG lo0 false wL0 (rO (oMove rd5) wL0) <|
  rG lo1 false wL0 (rO (oI ibNeq lo0 (rdC (.int 3 (.ofNat 0)))) wL0) <|
  rO (oPick lo2 (rdC (.bool true)) lo0) wL0 <|
  rO (oMove lo0) wL0 <|
  rG lo0 false wL0 (rO (oMove rd7) wL0) <|
  rG lo1 false wL0 (rO (oI ibNeq lo0 (rdC (.int 3 (.ofNat 0)))) wL0) <|
  rO (oPick lo2 (rdC (.bool true)) lo0) wL0 <|
  rO (oMove lo0) wL0 <|
  rG lo0 false wL0 (rO (oMove rd9) wL0) <|
  rG lo1 false wL0 (rO (oI ibNeq lo0 (rdC (.int 3 (.ofNat 0)))) wL0) <|
  rO (oPick lo2 (rdC (.bool true)) lo0) wL0 <|
  rO (oMove lo0) wL0 <|
  rG lo0 false wL0 (rO (oMove rd11) wL0) <|
  rG lo1 false wL0 (rO (oI ibNeq lo0 (rdC (.int 3 (.ofNat 0)))) wL0) <|
  rO (oPick lo2 (rdC (.bool true)) lo0) wL0 <|
  rO (oMove lo0) wL0 <|
  rG lo0 false wL0 (rO (oMove rd14) wL0) <|
  rG lo1 false wL0 (rO (oI ibNeq lo0 (rdC (.int 3 (.ofNat 0)))) wL0) <|
  rO (oPick lo2 (rdC (.bool true)) lo0) wL0 <|
  rO (oMove lo0) wL0 <|
  rG lo0 false wL0 (rO (oMove rd16) wL0) <|
  rG lo1 false wL0 (rO (oI ibNeq lo0 (rdC (.int 3 (.ofNat 0)))) wL0) <|
  rO (oPick lo2 (rdC (.bool true)) lo0) wL0 <|
  rO (oMove lo0) wL0 <|
  rG lo0 false wL0 (rO (oMove rd17) wL0) <|
  rG lo1 false wL0 (rO (oI ibNeq lo0 (rdC (.int 3 (.ofNat 0)))) wL0) <|
  rO (oPick lo2 (rdC (.bool true)) lo0) wL0 <|
  rO (oMove lo0) wL0 <|
  rG lo0 false wL0 (rO (oMove rd19) wL0) <|
  rG lo1 false wL0 (rO (oI ibNeq lo0 (rdC (.int 3 (.ofNat 0)))) wL0) <|
  rO (oPick lo2 (rdC (.bool true)) lo0) wL0 <|
  rO (oMove lo0) wL0 <|
  rG lo0 false wL0 (rO (oMove rd21) wL0) <|
  rG lo1 false wL0 (rO (oI ibNeq lo0 (rdC (.int 3 (.ofNat 0)))) wL0) <|
  rO (oPick lo2 (rdC (.bool true)) lo0) wL0 <|
  rO (oMove lo0) wL0 <|
  rG lo0 false wL0 (rO (oMove rd23) wL0) <|
  rG lo1 false wL0 (rO (oI ibNeq lo0 (rdC (.int 3 (.ofNat 0)))) wL0) <|
  rO (oPick lo2 (rdC (.bool true)) lo0) wL0 <|
  rO (oMove lo0) wL0 <|
  rG lo0 false wL0 (rO (oMove rd25) wL0) <|
  rG lo1 false wL0 (rO (oI ibNeq lo0 (rdC (.int 3 (.ofNat 0)))) wL0) <|
  rO (oPick lo2 (rdC (.bool true)) lo0) w149 <|
  rSkip) (rCond rd149 (rSeq (rO (oMove (rdC (.bool false))) w0 <|
  rSkip) rRet) rSkip)) (rSeq (rSeq (rO (oMove rd4) wL0 <|
  rO (oBuild [(.int 3 (.ofNat 0)), (.int 3 (.ofNat 0)), (.int 3 (.ofNat 0)), (.int 3 (.ofNat 0))] [(0, 1, (rdC (.int 3 (.ofNat 1)))), (1, 1, (rdC (.int 3 (.ofNat 2)))), (2, 1, (rdC (.int 3 (.ofNat 0)))), (3, 1, (rdC (.int 3 (.negSucc 0))))]) wL0 <|
  rO (oBuild [(.int 3 (.ofNat 0)), (.int 3 (.ofNat 0)), (.int 3 (.ofNat 0)), (.int 3 (.ofNat 0))] [(0, 1, (rdC (.int 3 (.ofNat 2)))), (1, 1, (rdC (.int 3 (.ofNat 4)))), (2, 1, (rdC (.int 3 (.ofNat 0)))), (3, 1, (rdC (.int 3 (.ofNat 0))))]) wL0 <|
  rO (oBuild [(.int 3 (.ofNat 0)), (.int 3 (.ofNat 0)), (.int 3 (.ofNat 0)), (.int 3 (.ofNat 0))] [(0, 1, (rdC (.int 3 (.ofNat 3)))), (1, 1, (rdC (.int 3 (.ofNat 2)))), (2, 1, (rdC (.int 3 (.ofNat 0)))), (3, 1, (rdC (.int 3 (.negSucc 0))))]) wL0 <|
  rO (oBuild [(.int 3 (.ofNat 0)), (.int 3 (.ofNat 0)), (.int 3 (.ofNat 0)), (.int 3 (.ofNat 0))] [(0, 1, (rdC (.int 3 (.ofNat 4)))), (1, 1, (rdC (.int 3 (.ofNat 6)))), (2, 1, (rdC (.int 3 (.ofNat 0)))), (3, 1, (rdC (.int 3 (.ofNat 0))))]) wL0 <|
  rO (oBuildSlice 4 [(.int 3 (.ofNat 0)), (.int 3 (.ofNat 0)), (.int 3 (.ofNat 0)), (.int 3 (.ofNat 0)), (.int 3 (.ofNat 0)), (.int 3 (.ofNat 0)), (.int 3 (.ofNat 0)), (.int 3 (.ofNat 0)), (.int 3 (.ofNat 0)), (.int 3 (.ofNat 0)), (.int 3 (.ofNat 0)), (.int 3 (.ofNat 0)), (.int 3 (.ofNat 0)), (.int 3 (.ofNat 0)), (.int 3 (.ofNat 0)), (.int 3 (.ofNat 0))] [(0, 4, lo3), (4, 4, lo2), (8, 4, lo1), (12, 4, lo0)]) wL0 <|
  rCall 38 [lo5, lo0] wL0 <|
  rO (oNot lo0) wL0 <|
  rO (oMove lo0) wL0 <|
  rG lo0 false wL0 (rO (oFieldAddr 6 rd6) wL0) <|
  rG lo1 false wL0 (rO (oLoad1 lo0) wL0) <|
  rG lo2 false wL0 (rO (oLenV lo0) wL0) <|
  rG lo3 false wL0 (rO (oI ibNeq lo0 (rdC (.int 3 (.ofNat 3)))) wL0) <|
  rO (oPick lo4 (rdC (.bool true)) lo0) wL0 <|
  rO (oMove lo0) wL0 <|
  rG lo0 false wL0 (rO (oFieldAddr 1 rd6) wL0) <|
  rG lo1 false wL0 (rO (oFieldAddr 2 lo0) wL0) <|
  rG lo2 false wL0 (rO (oLoad1 lo0) wL0) <|
  rG lo3 false wL0 (rO (oLenV lo0) wL0) <|
  rG lo4 false wL0 (rO (oI ibNeq lo0 (rdC (.int 3 (.ofNat 1)))) wL0) <|
  rO (oPick lo5 (rdC (.bool true)) lo0) wL0 <|
  rO (oMove lo0) wL0 <|
  rG lo0 false wL0 (rO (oFieldAddr 1 rd6) wL0) <|
  rG lo1 false wL0 (rO (oFieldAddr 2 lo0) wL0) <|
  rG lo2 false wL0 (rO (oLoad1 lo0) wL0) <|
  rG lo3 false wL0 (rO (oIndexAddrV 3 lo0 (rdC (.int 3 (.ofNat 0)))) wL0) <|
  rG lo4 false wL0 (rO (oFieldAddr 1 lo0) wL0) <|
  rG lo5 false wL0 (rO (oLoad1 lo0) wL0) <|
  rG lo6 false wL0 (rO (oI ibNeq lo0 (rdC (.int 3 (.ofNat 3)))) wL0) <|
  rO (oPick lo7 (rdC (.bool true)) lo0) wL0 <|
  rO (oMove lo0) wL0 <|
  rG lo0 false wL0 (rO (oMove rd8) wL0) <|
  rG lo1 false wL0 (rO (oI ibNeq lo0 (rdC (.int 3 (.ofNat 3)))) wL0) <|
  rO (oPick lo2 (rdC (.bool true)) lo0) wL0 <|
  rO (oMove lo0) wL0 <|
  rG lo0 false wL0 (rO (oMove rd10) wL0) <|
  rG lo1 false wL0 (rO (oI ibNeq lo0 (rdC (.int 3 (.ofNat 4)))) wL0) <|
  rO (oPick lo2 (rdC (.bool true)) lo0) wL0 <|
  rO (oMove lo0) wL0 <|
  rG lo0 false wL0 (rO (oMove rd12) wL0) <|
  rG lo1 false wL0 (rO (oI ibNeq lo0 (rdC (.int 3 (.ofNat 1)))) wL0) <|
  rO (oPick lo2 (rdC (.bool true)) lo0) wL0 <|
  rO (oMove lo0) wL0 <|
  rG lo0 false wL0 (rO (oMove rd13) wL0) <|
  rG lo1 false wL0 (rO (oI ibNeq lo0 (rdC (.int 3 (.ofNat 0)))) wL0) <|
  rO (oPick lo2 (rdC (.bool true)) lo0) wL0 <|
  rO (oMove lo0) wL0 <|
  rG lo0 false wL0 (rO (oMove rd18) wL0) <|
  rG lo1 false wL0 (rO (oBuildSlice 1 [(.int 3 (.ofNat 0))] [(0, 1, (rdC (.int 3 (.ofNat 0))))]) wL0) <|
  rG lo2 false wL0 (rCall 47 [lo1, lo0] wL0) <|
  rG lo3 false wL0 (rO (oNot lo0) wL0) <|
  rO (oPick lo4 (rdC (.bool true)) lo0) wL0 <|
  rO (oMove lo0) wL0 <|
  rG lo0 false wL0 (rO (oMove rd20) wL0) <|
  rG lo1 false wL0 (rO (oBuildSlice 1 [(.str 0 0)] [(0, 1, (rdC (.str 1 102)))]) wL0) <|
  rG lo2 false wL0 (rCall 48 [lo1, lo0] wL0) <|
  rG lo3 false wL0 (rO (oNot lo0) wL0) <|
  rO (oPick lo4 (rdC (.bool true)) lo0) wL0 <|
  rO (oMove lo0) wL0 <|
  rG lo0 false wL0 (rO (oMove rd22) wL0) <|
  rG lo1 false w210 (rO (oNot lo0) w210) <|
  rO (oPick lo1 (rdC (.bool true)) rd210) w211 <|
  rO (oMove rd211) w212 <|
  rG rd212 false w213 (rO (oMove rd24) w213) <|
  rO (oPick rd212 (rdC (.bool true)) rd213) w214 <|
  rSkip) (rCond rd214 (rSeq (rO (oMove (rdC (.bool false))) w0 <|
  rSkip) rRet) rSkip)) (rSeq (rCall 62 [] wL0 <|
  rCall 56 [lo0, (rdC (.str 1 103)), (rdC (.oth 1 0 [] []))] wL0 <|
  rO (oMove lo0) wL0 <|
  rO (oExtract 0 lo0) wL0 <|
  rO (oExtract 1 lo1) wL0 <|
  rO (oAlloc (mkCells [(.oth 1 0 [] []), (.oth 1 0 [] []), (.oth 1 0 [] []), (.oth 1 0 [] []), (.int 3 (.ofNat 0)), (.int 3 (.ofNat 0)), (.oth 1 0 [] [])])) w26 <|
  rO (oStoreN 7 rd26 lo1) wN <|
  rO (oMove lo0) w2 <|
  rSkip) (rSeq (rO (oLoadN 7 rd26) wL0 <|
  rCall 65 [lo0] wL0 <|
  rO (oMove lo0) wL0 <|
  rO (oExtract 0 lo0) wL0 <|
  rO (oExtract 1 lo1) wL0 <|
  rO (oStoreN 7 rd26 lo1) wN <|
  rO (oMove lo0) w3 <|
  rSkip) (rSeq (rO (oLoadN 7 rd26) wL0 <|
  rCall 44 [lo0] wL0 <|
  rO (oMove lo0) wL0 <|
  rO (oExtract 0 lo0) wL0 <|
  rO (oExtract 1 lo1) wL0 <|
  rO (oMove lo1) w27 <|
  rO (oMove lo0) w5 <|
  rSkip) (rSeq (rO (oFieldAddr 1 rd6) wL0 <|
  rO (oLoadN 5 lo0) wL0 <|
  rO (oAlloc (mkCells [(.int 3 (.ofNat 0)), (.bool false), (.bool false), (.int 3 (.ofNat 0)), (.int 3 (.ofNat 0)), (.oth 1 0 [] []), (.bool false), (.int 3 (.ofNat 0))])) w28 <|
  rCall 62 [] wL0 <|
  rChkA (fun _ => [(.int 3 (.ofNat 0)), (.bool false), (.bool false), (.int 3 (.ofNat 0)), (.int 3 (.ofNat 0)), (.oth 1 0 [] []), (.bool false), (.int 3 (.ofNat 0))]) rd28 <|
  rChk (oLoadN 5 lo2) lo1 <|
  rCall 21 [lo0, lo1] wL0 <|
  rChkA (fun _ => [(.int 3 (.ofNat 0)), (.bool false), (.bool false), (.int 3 (.ofNat 0)), (.int 3 (.ofNat 0)), (.oth 1 0 [] []), (.bool false), (.int 3 (.ofNat 0))]) rd28 <|
  rO (oMove lo0) wL0 <|
  rO (oExtract 0 lo0) wL0 <|
  rO (oExtract 1 lo1) wL0 <|
  rO (oStoreN 8 rd28 lo1) wN <|
  rO (oMove lo0) w7 <|
  rSkip) (rSeq (rO (oFieldAddr 1 rd1) wL0 <|
  rO (oLoadN 5 lo0) wL0 <|
  rO (oLoadN 8 rd28) wL0 <|
  rCall 22 [lo1, lo0] wL0 <|
  rO (oMove lo0) wL0 <|
  rO (oExtract 0 lo0) wL0 <|
  rO (oExtract 1 lo1) wL0 <|
  rO (oAlloc (mkCells [(.oth 1 0 [] []), (.oth 1 0 [] []), (.oth 1 0 [] []), (.int 3 (.ofNat 0)), (.int 3 (.ofNat 0))])) w29 <|
  rO (oStoreN 5 rd29 lo1) wN <|
  rO (oMove lo0) w9 <|
  rSkip) (rSeq (rO (oMove rd2) wL0 <|
  rO (oI ibEql lo0 (rdC (.int 3 (.ofNat 0)))) wL0 <|
  rO (oMove lo0) wL0 <|
  rG lo0 true wL0 (rO (oMove rd3) wL0) <|
  rG lo1 true wL0 (rO (oI ibEql lo0 (rdC (.int 3 (.ofNat 0)))) wL0) <|
  rO (oPick lo2 lo0 (rdC (.bool false))) wL0 <|
  rO (oMove lo0) wL0 <|
  rG lo0 true wL0 (rO (oMove rd5) wL0) <|
  rG lo1 true wL0 (rO (oI ibEql lo0 (rdC (.int 3 (.ofNat 0)))) wL0) <|
  rO (oPick lo2 lo0 (rdC (.bool false))) wL0 <|
  rO (oMove lo0) wL0 <|
  rG lo0 true wL0 (rO (oMove rd27) wL0) <|
  rG lo1 true wL0 (rO (oBuildSlice 2 [(.int 3 (.ofNat 0)), (.int 3 (.ofNat 0))] [(0, 1, (rdC (.int 3 (.ofNat 0)))), (1, 1, (rdC (.int 3 (.ofNat 0))))]) wL0) <|
  rG lo2 true wL0 (rCall 47 [lo1, lo0] wL0) <|
  rO (oPick lo3 lo0 (rdC (.bool false))) wL0 <|
  rO (oMove lo0) wL0 <|
  rG lo0 true wL0 (rO (oMove rd7) wL0) <|
  rG lo1 true wL0 (rO (oI ibEql lo0 (rdC (.int 3 (.ofNat 0)))) wL0) <|
  rO (oPick lo2 lo0 (rdC (.bool false))) wL0 <|
  rO (oMove lo0) wL0 <|
  rG lo0 true wL0 (rO (oFieldAddr 2 rd28) wL0) <|
  rG lo1 true wL0 (rO (oLoad1 lo0) wL0) <|
  rO (oPick lo2 lo0 (rdC (.bool false))) wL0 <|
  rO (oMove lo0) wL0 <|
  rG lo0 true wL0 (rO (oFieldAddr 6 rd28) wL0) <|
  rG lo1 true wL0 (rO (oLoad1 lo0) wL0) <|
  rG lo2 true wL0 (rO (oNot lo0) wL0) <|
  rO (oPick lo3 lo0 (rdC (.bool false))) wL0 <|
  rO (oMove lo0) wL0 <|
  rG lo0 true wL0 (rO (oFieldAddr 0 rd28) wL0) <|
  rG lo1 true wL0 (rO (oLoad1 lo0) wL0) <|
  rG lo2 true wL0 (rO (oI ibEql lo0 (rdC (.int 3 (.ofNat 0)))) wL0) <|
  rO (oPick lo3 lo0 (rdC (.bool false))) wL0 <|
  rO (oMove lo0) wL0 <|
  rG lo0 true wL0 (rO (oFieldAddr 3 rd28) wL0) <|
  rG lo1 true wL0 (rO (oFieldAddr 2 lo0) wL0) <|
  rG lo2 true wL0 (rO (oLoad1 lo0) wL0) <|
  rG lo3 true wL0 (rO (oBuildSlice 3 [(.int 3 (.ofNat 0)), (.int 3 (.ofNat 0)), (.int 3 (.ofNat 0))] [(0, 1, (rdC (.int 3 (.ofNat 0)))), (1, 1, (rdC (.int 3 (.negSucc 0)))), (2, 1, (rdC (.int 3 (.ofNat 1))))]) wL0) <|
  rG lo4 true wL0 (rCall 47 [lo1, lo0] wL0) <|
  rO (oPick lo5 lo0 (rdC (.bool false))) wL0 <|
  rO (oMove lo0) wL0 <|
  rG lo0 true wL0 (rO (oMove rd9) wL0) <|
  rG lo1 true wL0 (rO (oI ibEql lo0 (rdC (.int 3 (.ofNat 0)))) wL0) <|
  rO (oPick lo2 lo0 (rdC (.bool false))) wL0 <|
  rO (oMove lo0) wL0 <|
  rG lo0 true wL0 (rO (oLoadN 5 rd29) wL0) <|
  rG lo1 true wL0 (rO (oFieldAddr 1 rd6) wL0) <|
  rG lo2 true wL0 (rO (oLoadN 5 lo0) wL0) <|
  rG lo3 true wL0 (rCall 71 [lo2, lo0] wL0) <|
  rO (oPick lo4 lo0 (rdC (.bool false))) wL0 <|
  rO (oMove lo0) w0 <|
  rSkip) rRet))))))))))))))))))))))
def d16 : DF := .mk [] (resT rd0 resNil) c16
def c21 : Run :=
  (rSeq (rO (oBox rd0) w2 <|
  rO (oBox rd1) w3 <|
  rO (oAlloc (mkCells [(.int 3 (.ofNat 0)), (.bool false), (.bool false), (.int 3 (.ofNat 0)), (.int 3 (.ofNat 0)), (.oth 1 0 [] []), (.bool false), (.int 3 (.ofNat 0))])) w4 <|
  rO (oMove (rdC (.int 3 (.ofNat 0)))) w5 <|
  rSkip) (rSeq (rSeq (rO (oLoadN 1 rd2) wL0 <|
  rO (oLoadN 5 rd3) wL0 <|
  rCall 95 [lo1, lo0] wL0 <|
  rO (oMove lo0) w6 <|
  rSkip) (rSeq (rO (oMove rd6) wL0 <|
  rO (oI ibNeq lo0 (rdC (.int 3 (.ofNat 0)))) w14 <|
  rSkip) (rCond rd14 (rSeq (rO (oBuild [(.int 3 (.ofNat 0)), (.bool false), (.bool false), (.int 3 (.ofNat 0)), (.int 3 (.ofNat 0)), (.oth 1 0 [] []), (.bool false), (.int 3 (.ofNat 0))] []) wL0 <|
  rO (oMove rd6) wL0 <|
  rO (oStoreN 8 rd4 lo1) wN <|
  rO (oMove lo0) w5 <|
  rSkip) rRet) rSkip))) (rSeq (rO (oLoadN 1 rd2) wL0 <|
  rO (oLoadN 5 rd3) wL0 <|
  rCall 96 [lo1, lo0] wL0 <|
  rO (oMove lo0) wL0 <|
  rO (oExtract 0 lo0) wL0 <|
  rO (oExtract 1 lo1) wL0 <|
  rO (oExtract 2 lo2) wL0 <|
  rO (oAlloc (mkCells [(.oth 1 0 [] []), (.oth 1 0 [] []), (.oth 1 0 [] []), (.int 3 (.ofNat 0)), (.int 3 (.ofNat 0))])) wL0 <|
  rO (oAlloc (mkCells [(.int 3 (.ofNat 0)), (.bool false), (.bool false), (.int 3 (.ofNat 0)), (.int 3 (.ofNat 0)), (.oth 1 0 [] []), (.bool false), (.int 3 (.ofNat 0))])) w8 <|
  rO (oStoreN 5 lo0 lo3) wN <|
  rO (oStoreN 8 rd8 lo2) wN <|
  rO (oMove lo1) w9 <|
  rSkip) (rSeq (rO (oLoadN 8 rd8) wL0 <|
  rO (oMove rd9) wL0 <|
  rO (oStoreN 8 rd4 lo1) wN <|
  rO (oMove lo0) w5 <|
  rSkip) rRet))))
def d21 : DF := .mk [w0, w1] (resN 8 rd4 (resT rd5 resNil)) c21
def c22 : Run :=
  (rSeq (rO (oBox rd0) w2 <|
  rO (oBox rd1) w3 <|
  rO (oAlloc (mkCells [(.oth 1 0 [] []), (.oth 1 0 [] []), (.oth 1 0 [] []), (.int 3 (.ofNat 0)), (.int 3 (.ofNat 0))])) w4 <|
  rO (oMove (rdC (.int 3 (.ofNat 0)))) w5 <|
  rSkip) (rSeq (rSeq (rO (oLoadN 5 rd2) wL0 <|
  rO (oLoadN 8 rd3) wL0 <|
  rCall 97 [lo1, lo0] wL0 <|
  rO (oNot lo0) w11 <|
  rSkip) (rCond rd11 (rSeq (rO (oBuild [(.oth 1 0 [] []), (.oth 1 0 [] []), (.oth 1 0 [] []), (.int 3 (.ofNat 0)), (.int 3 (.ofNat 0))] []) wL0 <|
  rO (oStoreN 5 rd4 lo0) wN <|
  rO (oMove (rdC (.int 3 (.ofNat 14)))) w5 <|
  rSkip) rRet) rSkip)) (rSeq (rO (oLoadN 5 rd2) wL0 <|
  rCall 98 [lo0] wL0 <|
  rO (oStoreN 5 rd2 lo0) wN <|
  rSkip) (rSeq (rO (oFieldAddr 3 rd2) wL0 <|
  rO (oLoad1 lo0) wL0 <|
  rO (oI ibSub lo0 (rdC (.int 3 (.ofNat 1)))) wL0 <|
  rO (oFieldAddr 3 rd2) wL0 <|
  rO (oStore1 lo0 lo1) wN <|
  rSkip) (rSeq (rO (oFieldAddr 4 rd2) wL0 <|
  rO (oStore1 lo0 (rdC (.int 3 (.ofNat 0)))) wN <|
  rSkip) (rSeq (rO (oFieldAddr 0 rd2) wL0 <|
  rO (oLoad1 lo0) wL0 <|
  rO (oFieldAddr 0 rd2) wL0 <|
  rO (oLoad1 lo0) wL0 <|
  rO (oLenV lo0) wL0 <|
  rO (oFieldAddr 0 rd3) wL0 <|
  rO (oLoad1 lo0) wL0 <|
  rO (oI ibSub lo2 lo0) wL0 <|
  rO (oSliceV 2 lo6 none (some lo0)) wL0 <|
  rO (oFieldAddr 0 rd2) wL0 <|
  rO (oStore1 lo0 lo1) wN <|
  rSkip) (rSeq (rBlock 0 (rSeq (rO (oFieldAddr 1 rd3) wL0 <|
  rO (oLoad1 lo0) wL0 <|
  rO (oMove lo0) w30 <|
  rSkip) (rCond rd30 (rO (oFieldAddr 1 rd2) wL0 <|
  rO (oLoad1 lo0) wL0 <|
  rO (oFieldAddr 1 rd2) wL0 <|
  rO (oLoad1 lo0) wL0 <|
  rO (oLenV lo0) wL0 <|
  rO (oI ibSub lo0 (rdC (.int 3 (.ofNat 1)))) wL0 <|
  rO (oSliceV 5 lo4 none (some lo0)) wL0 <|
  rO (oFieldAddr 2 rd2) wL0 <|
  rO (oLoad1 lo0) wL0 <|
  rO (oFieldAddr 2 rd2) wL0 <|
  rO (oLoad1 lo0) wL0 <|
  rO (oLenV lo0) wL0 <|
  rO (oI ibSub lo0 (rdC (.int 3 (.ofNat 1)))) wL0 <|
  rO (oSliceV 3 lo4 none (some lo0)) wL0 <|
  rO (oFieldAddr 1 rd2) wL0 <|
  rO (oStore1 lo0 lo8) wN <|
  rChk (oLenV lo4) lo3 <|
  rO (oFieldAddr 2 rd2) wL0 <|
  rO (oStore1 lo0 lo2) wN <|
  rSkip) (rSeq (rO (oFieldAddr 2 rd3) wL0 <|
  rO (oLoad1 lo0) wL0 <|
  rO (oMove lo0) w49 <|
  rSkip) (rCond rd49 (rSeq (rO (oFieldAddr 1 rd2) wL0 <|
  rO (oLoad1 lo0) wL0 <|
  rO (oFieldAddr 3 rd3) wL0 <|
  rO (oFieldAddr 0 lo0) wL0 <|
  rO (oLoad1 lo0) wL0 <|
  rO (oIndexAddrV 5 lo3 lo0) wL0 <|
  rO (oMove lo0) w6 <|
  rSkip) (rSeq (rO (oMove rd6) wL0 <|
  rO (oMove rd6) wL0 <|
  rO (oNilCheck lo1) wL0 <|
  rO (oFieldAddr 3 lo0) wL0 <|
  rO (oStore1 lo0 (rdC (.bool false))) wN <|
  rO (oNilCheck lo2) wL0 <|
  rO (oFieldAddr 4 lo0) wL0 <|
  rO (oStore1 lo0 (rdC (.int 3 (.ofNat 0)))) wN <|
  rSkip) (rO (oFieldAddr 2 rd2) wL0 <|
  rO (oLoad1 lo0) wL0 <|
  rO (oFieldAddr 3 rd3) wL0 <|
  rO (oLoadN 3 lo0) wL0 <|
  rCall 99 [lo0] wL0 <|
  rChk (oLoad1 lo4) lo3 <|
  rO (oBuildSlice 1 [(.int 3 (.ofNat 0)), (.int 3 (.ofNat 0)), (.oth 1 0 [] [])] [(0, 3, lo0)]) wL0 <|
  rO (oAppend 3 lo4 lo0) wL0 <|
  rO (oFieldAddr 2 rd2) wL0 <|
  rO (oStore1 lo0 lo1) wN <|
  rSkip))) (rSeq (rO (oFieldAddr 6 rd3) wL0 <|
  rO (oLoad1 lo0) wL0 <|
  rO (oMove lo0) w72 <|
  rSkip) (rCond rd72 (rSeq (rO (oFieldAddr 2 rd2) wL0 <|
  rO (oLoad1 lo0) wL0 <|
  rO (oFieldAddr 2 rd2) wL0 <|
  rO (oLoad1 lo0) wL0 <|
  rO (oLenV lo0) wL0 <|
  rO (oI ibSub lo0 (rdC (.int 3 (.ofNat 1)))) wL0 <|
  rO (oIndexAddrV 3 lo4 lo0) wL0 <|
  rO (oMove lo0) w7 <|
  rSkip) (rSeq (rO (oMove rd7) wL0 <|
  rO (oNilCheck lo0) wL0 <|
  rO (oFieldAddr 1 lo0) wL0 <|
  rO (oLoad1 lo0) wL0 <|
  rO (oI ibSub lo0 (rdC (.int 3 (.ofNat 1)))) wL0 <|
  rO (oNilCheck lo4) wL0 <|
  rO (oFieldAddr 1 lo0) wL0 <|
  rO (oStore1 lo0 lo2) wN <|
  rSkip) (rO (oMove rd7) wL0 <|
  rO (oMove rd7) wL0 <|
  rO (oNilCheck lo0) wL0 <|
  rO (oFieldAddr 2 lo0) wL0 <|
  rO (oLoad1 lo0) wL0 <|
  rO (oMove rd7) wL0 <|
  rO (oNilCheck lo0) wL0 <|
  rO (oFieldAddr 2 lo0) wL0 <|
  rO (oLoad1 lo0) wL0 <|
  rO (oLenV lo0) wL0 <|
  rO (oI ibSub lo0 (rdC (.int 3 (.ofNat 1)))) wL0 <|
  rO (oSliceV 1 lo6 none (some lo0)) wL0 <|
  rO (oNilCheck lo11) wL0 <|
  rO (oFieldAddr 2 lo0) wL0 <|
  rO (oStore1 lo0 lo2) wN <|
  rSkip))) rSkip))))))) (rSeq (rO (oLoadN 5 rd2) wL0 <|
  rO (oStoreN 5 rd4 lo0) wN <|
  rO (oMove (rdC (.int 3 (.ofNat 0)))) w5 <|
  rSkip) rRet))))))))
def d22 : DF := .mk [w0, w1] (resN 5 rd4 (resT rd5 resNil)) c22
def c33 : Run :=
  (rSeq (rO (oBox rd0) w1 <|
  rO (oMove (rdC (.oth 1 0 [] []))) w2 <|
  rO (oMove (rdC (.int 3 (.ofNat 0)))) w3 <|
  rSkip) (rSeq (rSeq (rO (oLoadN 7 rd1) wL0 <|
  rCall 68 [lo0] wL0 <|
  rO (oMove lo0) w4 <|
  rSkip) (rSeq (rO (oMove rd4) wL0 <|
  rO (oI ibNeq lo0 (rdC (.int 3 (.ofNat 0)))) w8 <|
  rSkip) (rCond rd8 (rSeq (rO (oMove rd4) wL0 <|
  rO (oMove (rdC (.oth 1 0 [] []))) w2 <|
  rO (oMove lo0) w3 <|
  rSkip) rRet) rSkip))) (rSeq (rO (oLoadN 7 rd1) wL0 <|
  rCall 109 [lo0] wL0 <|
  rO (oMove lo0) w2 <|
  rO (oMove (rdC (.int 3 (.ofNat 0)))) w3 <|
  rSkip) rRet)))
def d33 : DF := .mk [w0] (resT rd2 (resT rd3 resNil)) c33
def c34 : Run :=
  (rSeq (rO (oBox rd0) w2 <|
  rO (oBox rd1) w3 <|
  rO (oMove (rdC (.int 3 (.ofNat 0)))) w4 <|
  rO (oMove (rdC (.int 3 (.ofNat 0)))) w5 <|
  rSkip) (rSeq (rO (oLoadN 7 rd2) wL0 <|
  rCall 68 [lo0] wL0 <|
  rO (oMove lo0) w6 <|
  rSkip) (rSeq (rBlock 0 (rSeq (rO (oMove rd6) wL0 <|
  rO (oI ibNeq lo0 (rdC (.int 3 (.ofNat 0)))) wL0 <|
  rO (oMove lo0) w11 <|
  rSkip) (rCond rd11 (rSeq (rO (oMove rd6) wL0 <|
  rO (oMove (rdC (.int 3 (.ofNat 0)))) w4 <|
  rO (oMove lo0) w5 <|
  rSkip) rRet) (rSeq (rO (oLoad1 rd3) wL0 <|
  rO (oI ibLss lo0 (rdC (.int 3 (.ofNat 0)))) wL0 <|
  rO (oMove lo0) wL0 <|
  rG lo0 false wL0 (rO (oLoad1 rd3) wL0) <|
  rG lo1 false wL0 (rO (oFieldAddr 1 rd2) wL0) <|
  rG lo2 false wL0 (rO (oFieldAddr 1 lo0) wL0) <|
  rG lo3 false wL0 (rO (oLoad1 lo0) wL0) <|
  rG lo4 false wL0 (rO (oLenV lo0) wL0) <|
  rG lo5 false wL0 (rO (oI ibGeq lo4 lo0) wL0) <|
  rO (oPick lo6 (rdC (.bool true)) lo0) wL0 <|
  rO (oMove lo0) w15 <|
  rSkip) (rCond rd15 (rSeq (rO (oMove (rdC (.int 3 (.ofNat 0)))) w4 <|
  rO (oMove (rdC (.int 3 (.ofNat 1)))) w5 <|
  rSkip) rRet) rSkip))))) (rSeq (rO (oLoadN 7 rd2) wL0 <|
  rCall 109 [lo0] wL0 <|
  rO (oMkFn 111 [] [rd3]) wL0 <|
  rCall 110 [lo1, lo0] wL0 <|
  rO (oMove lo0) wL0 <|
  rO (oExtract 0 lo0) wL0 <|
  rO (oExtract 1 lo1) wL0 <|
  rO (oAlloc (mkCells [(.int 3 (.ofNat 0)), (.int 3 (.ofNat 0)), (.int 3 (.ofNat 0)), (.int 3 (.ofNat 0))])) w7 <|
  rO (oStoreN 4 rd7 lo1) wN <|
  rO (oMove lo0) wL0 <|
  rSkip) (rSeq (rO (oFieldAddr 0 rd7) wL0 <|
  rO (oLoad1 lo0) wL0 <|
  rO (oMove lo0) w4 <|
  rO (oMove (rdC (.int 3 (.ofNat 0)))) w5 <|
  rSkip) rRet)))))
def d34 : DF := .mk [w0, w1] (resT rd4 (resT rd5 resNil)) c34
def c35 : Run :=
  (rSeq (rO (oBox rd0) w2 <|
  rO (oBox rd1) w3 <|
  rO (oMove (rdC (.int 3 (.ofNat 0)))) w4 <|
  rO (oMove (rdC (.int 3 (.ofNat 0)))) w5 <|
  rSkip) (rSeq (rSeq (rO (oLoadN 7 rd2) wL0 <|
  rO (oLoad1 rd3) wL0 <|
  rCall 34 [lo1, lo0] wL0 <|
  rO (oMove lo0) wL0 <|
  rO (oExtract 0 lo0) wL0 <|
  rO (oExtract 1 lo1) wL0 <|
  rO (oMove lo1) wL0 <|
  rO (oMove lo1) w7 <|
  rSkip) (rSeq (rO (oMove rd7) wL0 <|
  rO (oI ibNeq lo0 (rdC (.int 3 (.ofNat 0)))) w17 <|
  rSkip) (rCond rd17 (rSeq (rO (oMove rd7) wL0 <|
  rO (oMove (rdC (.int 3 (.ofNat 0)))) w4 <|
  rO (oMove lo0) w5 <|
  rSkip) rRet) rSkip))) (rSeq (rO (oLoadN 7 rd2) wL0 <|
  rCall 109 [lo0] wL0 <|
  rO (oMkFn 112 [] [rd3]) wL0 <|
  rCall 110 [lo1, lo0] wL0 <|
  rO (oMove lo0) wL0 <|
  rO (oExtract 0 lo0) wL0 <|
  rO (oExtract 1 lo1) wL0 <|
  rO (oAlloc (mkCells [(.int 3 (.ofNat 0)), (.int 3 (.ofNat 0)), (.int 3 (.ofNat 0)), (.int 3 (.ofNat 0))])) w8 <|
  rO (oStoreN 4 rd8 lo1) wN <|
  rO (oMove lo0) w9 <|
  rSkip) (rSeq (rSeq (rO (oMove rd9) wL0 <|
  rO (oNot lo0) w27 <|
  rSkip) (rCond rd27 (rSeq (rO (oMove (rdC (.int 3 (.ofNat 0)))) w4 <|
  rO (oMove (rdC (.int 3 (.ofNat 6)))) w5 <|
  rSkip) rRet) rSkip)) (rSeq (rO (oFieldAddr 0 rd8) wL0 <|
  rO (oLoad1 lo0) wL0 <|
  rO (oMove lo0) w4 <|
  rO (oMove (rdC (.int 3 (.ofNat 0)))) w5 <|
  rSkip) rRet)))))
def d35 : DF := .mk [w0, w1] (resT rd4 (resT rd5 resNil)) c35
def c36 : Run :=
  (rSeq (rO (oBox rd0) w2 <|
  rO (oBox rd1) w3 <|
  rO (oMove (rdC (.int 3 (.ofNat 0)))) w4 <|
  rO (oMove (rdC (.int 3 (.ofNat 0)))) w5 <|
  rSkip) (rSeq (rO (oLoadN 7 rd2) wL0 <|
  rCall 68 [lo0] wL0 <|
  rO (oMove lo0) w6 <|
  rSkip) (rSeq (rBlock 0 (rSeq (rO (oMove rd6) wL0 <|
  rO (oI ibNeq lo0 (rdC (.int 3 (.ofNat 0)))) wL0 <|
  rO (oMove lo0) w10 <|
  rSkip) (rCond rd10 (rSeq (rO (oMove rd6) wL0 <|
  rO (oMove (rdC (.int 3 (.ofNat 0)))) w4 <|
  rO (oMove lo0) w5 <|
  rSkip) rRet) (rSeq (rO (oLoad1 rd3) wL0 <|
  rO (oI ibLss lo0 (rdC (.int 3 (.ofNat 0)))) wL0 <|
  rO (oMove lo0) wL0 <|
  rG lo0 false wL0 (rO (oLoad1 rd3) wL0) <|
  rG lo1 false wL0 (rO (oFieldAddr 1 rd2) wL0) <|
  rG lo2 false wL0 (rO (oFieldAddr 0 lo0) wL0) <|
  rG lo3 false wL0 (rO (oLoad1 lo0) wL0) <|
  rG lo4 false wL0 (rO (oLenV lo0) wL0) <|
  rG lo5 false wL0 (rO (oI ibGeq lo4 lo0) wL0) <|
  rO (oPick lo6 (rdC (.bool true)) lo0) wL0 <|
  rO (oMove lo0) w14 <|
  rSkip) (rCond rd14 (rSeq (rO (oMove (rdC (.int 3 (.ofNat 0)))) w4 <|
  rO (oMove (rdC (.int 3 (.ofNat 1)))) w5 <|
  rSkip) rRet) rSkip))))) (rSeq (rO (oAlloc (mkCells [(.int 3 (.ofNat 0))])) w7 <|
  rO (oStore1 rd7 (rdC (.int 3 (.ofNat 0)))) wN <|
  rSkip) (rSeq (rO (oFieldAddr 6 rd2) wL0 <|
  rO (oLoad1 lo0) wL0 <|
  rO (oMkFn 114 [] [rd7, rd3]) wL0 <|
  rCall 113 [lo1, lo0] wL0 <|
  rO (oI ibAdd lo0 (rdC (.int 3 (.ofNat 1)))) wL0 <|
  rO (oMove lo0) w4 <|
  rO (oMove (rdC (.int 3 (.ofNat 0)))) w5 <|
  rSkip) rRet)))))
def d36 : DF := .mk [w0, w1] (resT rd4 (resT rd5 resNil)) c36
def c37 : Run :=
  (rSeq (rO (oBox rd0) w1 <|
  rO (oAlloc (mkCells [(.int 3 (.ofNat 0))])) w2 <|
  rO (oAlloc (mkCells [(.int 3 (.ofNat 0))])) w3 <|
  rO (oMove (rdC (.int 3 (.ofNat 0)))) w4 <|
  rSkip) (rSeq (rSeq (rO (oLoadN 7 rd1) wL0 <|
  rCall 68 [lo0] wL0 <|
  rO (oMove lo0) w5 <|
  rSkip) (rSeq (rO (oMove rd5) wL0 <|
  rO (oI ibNeq lo0 (rdC (.int 3 (.ofNat 0)))) w12 <|
  rSkip) (rCond rd12 (rSeq (rO (oMove rd5) wL0 <|
  rO (oStore1 rd2 (rdC (.int 3 (.ofNat 0)))) wN <|
  rO (oStore1 rd3 (rdC (.int 3 (.ofNat 0)))) wN <|
  rO (oMove lo0) w4 <|
  rSkip) rRet) rSkip))) (rSeq (rO (oStore1 rd2 (rdC (.int 3 (.negSucc 0)))) wN <|
  rSkip) (rSeq (rO (oMkFn 115 [] [rd2, rd3]) wL0 <|
  rO (oAlloc (mkCells [(.oth 6 0 [] [])])) w6 <|
  rO (oStore1 rd6 lo0) wN <|
  rSkip) (rSeq (rSeq (rO (oLoadN 7 rd1) wL0 <|
  rCall 116 [lo0] w16 <|
  rSkip) (rBlock 0 (rRange rd16 1))) (rSeq (rO (oLoad1 rd6) wL0 <|
  rO (oFieldAddr 1 rd1) wL0 <|
  rO (oFieldAddr 2 lo0) wL0 <|
  rO (oLoad1 lo0) wL0 <|
  rO (oLenV lo0) wL0 <|
  rO (oFieldAddr 6 rd1) wL0 <|
  rO (oLoad1 lo0) wL0 <|
  rO (oLenV lo0) wL0 <|
  rCallV lo7 [lo3, lo0] wL0 <|
  rSkip) (rSeq (rO (oLoad1 rd2) wL0 <|
  rO (oLoad1 rd3) wL0 <|
  rO (oStore1 rd2 lo1) wN <|
  rChk (oLoad1 rd3) lo0 <|
  rO (oStore1 rd3 lo0) wN <|
  rO (oMove (rdC (.int 3 (.ofNat 0)))) w4 <|
  rSkip) rRet)))))))
def d37 : DF := .mk [w0] (res1 rd2 (res1 rd3 (resT rd4 resNil))) c37
def c38 : Run :=
  (rSeq (rO (oMove (rdC (.bool false))) w4 <|
  rSkip) (rSeq (rSeq (rO (oMove rd0) wL0 <|
  rO (oLenV lo0) wL0 <|
  rO (oMove rd1) wL0 <|
  rO (oLenV lo0) wL0 <|
  rO (oI ibNeq lo2 lo0) w10 <|
  rSkip) (rCond rd10 (rSeq (rO (oMove (rdC (.bool false))) w4 <|
  rSkip) rRet) rSkip)) (rSeq (rSeq (rO (oMove rd0) wL0 <|
  rO (oLenV lo0) w12 <|
  rO (oMove (rdC (.int 3 (.ofNat 0)))) w13 <|
  rSkip) (rBlock 0 (rLoop (rSeq (rO (oI ibLss rd13 rd12) w14 <|
  rSkip) (rSeq (rCond rd14 rSkip (rExit 0)) (rSeq (rBlock 1 (rSeq (rO (oMove rd13) wL0 <|
  rO (oMove lo0) w5 <|
  rSkip) (rSeq (rO (oMove rd0) wL0 <|
  rO (oMove rd5) wL0 <|
  rO (oIndexAddrV 4 lo1 lo0) wL0 <|
  rO (oLoadN 4 lo0) wL0 <|
  rO (oMove rd1) wL0 <|
  rO (oMove rd5) wL0 <|
  rO (oIndexAddrV 4 lo1 lo0) wL0 <|
  rO (oLoadN 4 lo0) wL0 <|
  rO (oAg 34953 false lo4 lo0) w24 <|
  rSkip) (rCond rd24 (rSeq (rO (oMove (rdC (.bool false))) w4 <|
  rSkip) rRet) rSkip)))) (rO (oI ibAdd rd13 (rdC (.int 3 (.ofNat 1)))) wL0 <|
  rO (oMove lo0) w13 <|
  rSkip))))))) (rSeq (rO (oMove (rdC (.bool true))) w4 <|
  rSkip) rRet))))
def d38 : DF := .mk [w0, w1] (resT rd4 resNil) c38
def c40 : Run :=
  (rSeq (rO (oMove (rdC (.oth 1 0 [] []))) w2 <|
  rSkip) (rSeq (rSeq (rO (oMove rd0) wL0 <|
  rO (oSlNil true lo0) w4 <|
  rSkip) (rCond rd4 (rSeq (rO (oMove (rdC (.oth 1 0 [] []))) w2 <|
  rSkip) rRet) rSkip)) (rSeq (rO (oBuildSlice 0 [] []) wL0 <|
  rO (oMove rd0) wL0 <|
  rO (oAppend 1 lo1 lo0) wL0 <|
  rO (oMove lo0) w2 <|
  rSkip) rRet)))
def d40 : DF := .mk [w0] (resT rd2 resNil) c40
def c44 : Run :=
  (rSeq (rO (oBox rd0) w1 <|
  rO (oMove (rdC (.oth 1 0 [] []))) w2 <|
  rO (oMove (rdC (.int 3 (.ofNat 0)))) w3 <|
  rSkip) (rSeq (rO (oLoadN 7 rd1) wL0 <|
  rCall 125 [lo0] wL0 <|
  rO (oMove lo0) wL0 <|
  rO (oExtract 0 lo0) wL0 <|
  rO (oExtract 1 lo1) wL0 <|
  rO (oAlloc (mkCells [(.oth 1 0 [] []), (.oth 1 0 [] []), (.oth 1 0 [] []), (.int 3 (.ofNat 0)), (.int 3 (.ofNat 0)), (.int 3 (.ofNat 0)), (.bool false), (.bool false), (.int 3 (.ofNat 0)), (.int 3 (.ofNat 0)), (.oth 1 0 [] []), (.bool false), (.int 3 (.ofNat 0)), (.oth 1 0 [] [])])) w4 <|
  rO (oStoreN 14 rd4 lo1) wN <|
  rO (oMove lo0) w5 <|
  rSkip) (rSeq (rSeq (rO (oMove rd5) wL0 <|
  rO (oI ibNeq lo0 (rdC (.int 3 (.ofNat 0)))) w12 <|
  rSkip) (rCond rd12 (rSeq (rO (oMove rd5) wL0 <|
  rO (oMove (rdC (.oth 1 0 [] []))) w2 <|
  rO (oMove lo0) w3 <|
  rSkip) rRet) rSkip)) (rSeq (rO (oLoadN 14 rd4) wL0 <|
  rCall 126 [lo0] wL0 <|
  rO (oMove lo0) w2 <|
  rO (oMove (rdC (.int 3 (.ofNat 0)))) w3 <|
  rSkip) rRet))))
def d44 : DF := .mk [w0] (resT rd2 (resT rd3 resNil)) c44
def c45 : Run :=
  (rSeq (rO (oBox rd0) w1 <|
  rO (oMove (rdC (.oth 1 0 [] []))) w2 <|
  rO (oMove (rdC (.int 3 (.ofNat 0)))) w3 <|
  rSkip) (rSeq (rO (oLoadN 7 rd1) wL0 <|
  rCall 44 [lo0] wL0 <|
  rO (oMove lo0) wL0 <|
  rO (oExtract 0 lo0) wL0 <|
  rO (oExtract 1 lo1) wL0 <|
  rO (oMove lo1) w4 <|
  rO (oMove lo0) w5 <|
  rSkip) (rSeq (rSeq (rO (oMove rd5) wL0 <|
  rO (oI ibNeq lo0 (rdC (.int 3 (.ofNat 0)))) w15 <|
  rSkip) (rCond rd15 (rSeq (rO (oMove rd5) wL0 <|
  rO (oMove (rdC (.oth 1 0 [] []))) w2 <|
  rO (oMove lo0) w3 <|
  rSkip) rRet) rSkip)) (rSeq (rO (oMove (rdC (.oth 1 0 [] []))) w6 <|
  rSkip) (rSeq (rSeq (rO (oMove rd4) w17 <|
  rO (oLenV rd17) w18 <|
  rO (oMove (rdC (.int 3 (.ofNat 0)))) w19 <|
  rSkip) (rBlock 0 (rLoop (rSeq (rO (oI ibLss rd19 rd18) w20 <|
  rSkip) (rSeq (rCond rd20 rSkip (rExit 0)) (rSeq (rBlock 1 (rSeq (rO (oIndexAddrV 1 rd17 rd19) wL0 <|
  rO (oLoad1 lo0) wL0 <|
  rO (oMove lo0) w8 <|
  rSkip) (rO (oMove rd6) wL0 <|
  rO (oFieldAddr 0 rd1) wL0 <|
  rO (oFieldAddr 0 lo0) wL0 <|
  rO (oLoad1 lo0) wL0 <|
  rO (oFieldAddr 1 rd1) wL0 <|
  rO (oFieldAddr 1 lo0) wL0 <|
  rO (oLoad1 lo0) wL0 <|
  rO (oMove rd8) wL0 <|
  rO (oIndexAddrV 5 lo1 lo0) wL0 <|
  rO (oFieldAddr 0 lo0) wL0 <|
  rO (oLoad1 lo0) wL0 <|
  rO (oIndexAddrV 3 lo7 lo0) wL0 <|
  rO (oFieldAddr 0 lo0) wL0 <|
  rO (oLoad1 lo0) wL0 <|
  rO (oBuildSlice 1 [(.str 0 0)] [(0, 1, lo0)]) wL0 <|
  rO (oAppend 1 lo14 lo0) wL0 <|
  rO (oMove lo0) w6 <|
  rSkip))) (rO (oI ibAdd rd19 (rdC (.int 3 (.ofNat 1)))) wL0 <|
  rO (oMove lo0) w19 <|
  rSkip))))))) (rSeq (rO (oMove rd6) wL0 <|
  rO (oMove lo0) w2 <|
  rO (oMove (rdC (.int 3 (.ofNat 0)))) w3 <|
  rSkip) rRet))))))
def d45 : DF := .mk [w0] (resT rd2 (resT rd3 resNil)) c45
def c46 : Run :=
  (rSeq (rO (oBox rd0) w2 <|
  rO (oMove (rdC (.bool false))) w4 <|
  rO (oMove (rdC (.int 3 (.ofNat 0)))) w5 <|
  rSkip) (rSeq (rO (oLoadN 7 rd2) wL0 <|
  rCall 125 [lo0] wL0 <|
  rO (oMove lo0) wL0 <|
  rO (oExtract 0 lo0) wL0 <|
  rO (oExtract 1 lo1) wL0 <|
  rO (oAlloc (mkCells [(.oth 1 0 [] []), (.oth 1 0 [] []), (.oth 1 0 [] []), (.int 3 (.ofNat 0)), (.int 3 (.ofNat 0)), (.int 3 (.ofNat 0)), (.bool false), (.bool false), (.int 3 (.ofNat 0)), (.int 3 (.ofNat 0)), (.oth 1 0 [] []), (.bool false), (.int 3 (.ofNat 0)), (.oth 1 0 [] [])])) w6 <|
  rO (oStoreN 14 rd6 lo1) wN <|
  rO (oMove lo0) w7 <|
  rSkip) (rSeq (rSeq (rO (oMove rd7) wL0 <|
  rO (oI ibNeq lo0 (rdC (.int 3 (.ofNat 0)))) w20 <|
  rSkip) (rCond rd20 (rSeq (rO (oMove rd7) wL0 <|
  rO (oMove (rdC (.bool false))) w4 <|
  rO (oMove lo0) w5 <|
  rSkip) rRet) rSkip)) (rSeq (rO (oMove rd1) wL0 <|
  rO (oLenV lo0) wL0 <|
  rO (oMove lo0) w8 <|
  rSkip) (rSeq (rSeq (rO (oMove rd8) wL0 <|
  rO (oI ibLss lo0 (rdC (.int 3 (.ofNat 1)))) wL0 <|
  rO (oMove lo0) wL0 <|
  rG lo0 false wL0 (rO (oMove rd8) wL0) <|
  rG lo1 false wL0 (rO (oI ibGtr lo0 (rdC (.int 3 (.ofNat 40)))) wL0) <|
  rO (oPick lo2 (rdC (.bool true)) lo0) wL0 <|
  rO (oMove lo0) wL0 <|
  rG lo0 false wL0 (rO (oMove rd1) wL0) <|
  rG lo1 false wL0 (rO (oIndexAddrV 1 lo0 (rdC (.int 3 (.ofNat 0)))) wL0) <|
  rG lo2 false wL0 (rO (oLoad1 lo0) wL0) <|
  rG lo3 false wL0 (rO (oLoadN 14 rd6) wL0) <|
  rG lo4 false wL0 (rCall 127 [lo0] wL0) <|
  rG lo5 false wN (rChk (oLoad1 lo3) lo2) <|
  rG lo5 false wL0 (rO (oField1 0 lo0) wL0) <|
  rG lo6 false wL0 (rO (oI ibNeq lo3 lo0) wL0) <|
  rO (oPick lo7 (rdC (.bool true)) lo0) w38 <|
  rSkip) (rCond rd38 (rSeq (rO (oMove (rdC (.bool false))) w4 <|
  rO (oMove (rdC (.int 3 (.ofNat 0)))) w5 <|
  rSkip) rRet) rSkip)) (rSeq (rSeq (rO (oLoadN 14 rd6) wL0 <|
  rCall 128 [lo0] wL0 <|
  rO (oMove lo0) wL0 <|
  rO (oExtract 0 lo0) wL0 <|
  rO (oExtract 1 lo1) wL0 <|
  rO (oMove lo1) wL0 <|
  rO (oMove lo1) w10 <|
  rSkip) (rSeq (rO (oMove rd10) w44 <|
  rSkip) (rCond rd44 (rSeq (rSeq (rO (oMove rd1) w45 <|
  rO (oLenV rd45) w46 <|
  rO (oMove (rdC (.int 3 (.ofNat 0)))) w47 <|
  rSkip) (rBlock 0 (rLoop (rSeq (rO (oI ibLss rd47 rd46) w48 <|
  rSkip) (rSeq (rCond rd48 rSkip (rExit 0)) (rSeq (rBlock 1 (rSeq (rO (oMove rd47) wL0 <|
  rO (oIndexAddrV 1 rd45 rd47) wL0 <|
  rO (oLoad1 lo0) wL0 <|
  rO (oMove lo2) w11 <|
  rO (oMove lo0) w12 <|
  rSkip) (rSeq (rO (oMove rd11) wL0 <|
  rO (oI ibGtr lo0 (rdC (.int 3 (.ofNat 0)))) wL0 <|
  rO (oMove lo0) wL0 <|
  rG lo0 true wL0 (rO (oLoadN 14 rd6) wL0) <|
  rG lo1 true wL0 (rO (oMove rd12) wL0) <|
  rG lo2 true wL0 (rCall 129 [lo1, lo0] wL0) <|
  rG lo3 true wL0 (rO (oNot lo0) wL0) <|
  rO (oPick lo4 lo0 (rdC (.bool false))) wL0 <|
  rO (oMove lo0) wL0 <|
  rG lo0 false wL0 (rO (oLoadN 14 rd6) wL0) <|
  rG lo1 false wL0 (rO (oMove rd12) wL0) <|
  rG lo2 false wL0 (rO (oMove rd1) wL0) <|
  rG lo3 false wL0 (rO (oMove rd11) wL0) <|
  rG lo4 false wL0 (rO (oI ibAdd lo0 (rdC (.int 3 (.ofNat 1)))) wL0) <|
  rG lo5 false wL0 (rO (oMove rd8) wL0) <|
  rG lo6 false wL0 (rO (oI ibRem lo1 lo0) wL0) <|
  rG lo7 false wL0 (rO (oIndexAddrV 1 lo4 lo0) wL0) <|
  rG lo8 false wL0 (rO (oLoad1 lo0) wL0) <|
  rG lo9 false wL0 (rCall 131 [lo8, lo7] wL0) <|
  rG lo10 false wN (rChk (oLoad1 lo2) lo1) <|
  rG lo10 false wL0 (rO (oBuildSlice 2 [(.int 3 (.ofNat 0)), (.int 3 (.ofNat 0))] [(0, 1, lo0), (1, 1, lo1)]) wL0) <|
  rG lo11 false wL0 (rCall 130 [lo0] wL0) <|
  rG lo12 false wL0 (rO (oNot lo0) wL0) <|
  rO (oPick lo13 (rdC (.bool true)) lo0) w74 <|
  rSkip) (rCond rd74 (rSeq (rO (oMove (rdC (.bool false))) w4 <|
  rO (oMove (rdC (.int 3 (.ofNat 0)))) w5 <|
  rSkip) rRet) rSkip)))) (rO (oI ibAdd rd47 (rdC (.int 3 (.ofNat 1)))) wL0 <|
  rO (oMove lo0) w47 <|
  rSkip))))))) (rSeq (rO (oMove (rdC (.bool true))) w4 <|
  rO (oMove (rdC (.int 3 (.ofNat 0)))) w5 <|
  rSkip) rRet)) rSkip))) (rSeq (rSeq (rO (oMove rd8) wL0 <|
  rO (oI ibLss lo0 (rdC (.int 3 (.ofNat 2)))) wL0 <|
  rO (oMove lo0) wL0 <|
  rG lo0 false wL0 (rO (oMove rd1) wL0) <|
  rG lo1 false wL0 (rO (oIndexAddrV 1 lo0 (rdC (.int 3 (.ofNat 1)))) wL0) <|
  rG lo2 false wL0 (rO (oLoad1 lo0) wL0) <|
  rG lo3 false wL0 (rO (oLoadN 14 rd6) wL0) <|
  rG lo4 false wL0 (rCall 132 [lo0] wL0) <|
  rG lo5 false wN (rChk (oLoad1 lo3) lo2) <|
  rG lo5 false wL0 (rO (oI ibNeq lo2 lo0) wL0) <|
  rO (oPick lo6 (rdC (.bool true)) lo0) w85 <|
  rSkip) (rCond rd85 (rSeq (rO (oMove (rdC (.bool false))) w4 <|
  rO (oMove (rdC (.int 3 (.ofNat 0)))) w5 <|
  rSkip) rRet) rSkip)) (rSeq (rSeq (rO (oMove (rdC (.int 3 (.ofNat 2)))) w13 <|
  rSkip) (rBlock 2 (rLoop (rSeq (rSeq (rO (oMove rd13) wL0 <|
  rO (oMove rd8) wL0 <|
  rO (oI ibLss lo1 lo0) w88 <|
  rSkip) (rCond rd88 rSkip (rExit 2))) (rSeq (rBlock 3 (rSeq (rO (oLoadN 14 rd6) wL0 <|
  rO (oMove rd1) wL0 <|
  rO (oMove rd13) wL0 <|
  rO (oI ibSub lo0 (rdC (.int 3 (.ofNat 1)))) wL0 <|
  rO (oIndexAddrV 1 lo2 lo0) wL0 <|
  rO (oLoad1 lo0) wL0 <|
  rO (oMove rd1) wL0 <|
  rO (oMove rd13) wL0 <|
  rO (oIndexAddrV 1 lo1 lo0) wL0 <|
  rO (oLoad1 lo0) wL0 <|
  rCall 134 [lo9, lo4] wL0 <|
  rChk (oLoad1 lo2) lo1 <|
  rCall 133 [lo0, lo1] wL0 <|
  rO (oNot lo0) w103 <|
  rSkip) (rCond rd103 (rSeq (rO (oMove (rdC (.bool false))) w4 <|
  rO (oMove (rdC (.int 3 (.ofNat 0)))) w5 <|
  rSkip) rRet) rSkip))) (rO (oMove rd13) wL0 <|
  rO (oI ibAdd lo0 (rdC (.int 3 (.ofNat 1)))) wL0 <|
  rO (oMove lo0) w13 <|
  rSkip)))))) (rSeq (rO (oLoadN 14 rd6) wL0 <|
  rO (oMove rd1) wL0 <|
  rO (oMove rd8) wL0 <|
  rO (oI ibSub lo0 (rdC (.int 3 (.ofNat 1)))) wL0 <|
  rO (oIndexAddrV 1 lo2 lo0) wL0 <|
  rO (oLoad1 lo0) wL0 <|
  rCall 129 [lo5, lo0] wL0 <|
  rO (oNot lo0) wL0 <|
  rO (oMove lo0) w4 <|
  rO (oMove (rdC (.int 3 (.ofNat 0)))) w5 <|
  rSkip) rRet)))))))))
def d46 : DF := .mk [w0, w1] (resT rd4 (resT rd5 resNil)) c46
def c47 : Run :=
  (rSeq (rO (oMove (rdC (.bool false))) w4 <|
  rSkip) (rSeq (rSeq (rO (oMove rd0) wL0 <|
  rO (oLenV lo0) wL0 <|
  rO (oMove rd1) wL0 <|
  rO (oLenV lo0) wL0 <|
  rO (oI ibNeq lo2 lo0) w10 <|
  rSkip) (rCond rd10 (rSeq (rO (oMove (rdC (.bool false))) w4 <|
  rSkip) rRet) rSkip)) (rSeq (rSeq (rO (oMove rd0) wL0 <|
  rO (oLenV lo0) w12 <|
  rO (oMove (rdC (.int 3 (.ofNat 0)))) w13 <|
  rSkip) (rBlock 0 (rLoop (rSeq (rO (oI ibLss rd13 rd12) w14 <|
  rSkip) (rSeq (rCond rd14 rSkip (rExit 0)) (rSeq (rBlock 1 (rSeq (rO (oMove rd13) wL0 <|
  rO (oMove lo0) w5 <|
  rSkip) (rSeq (rO (oMove rd0) wL0 <|
  rO (oMove rd5) wL0 <|
  rO (oIndexAddrV 1 lo1 lo0) wL0 <|
  rO (oLoad1 lo0) wL0 <|
  rO (oMove rd1) wL0 <|
  rO (oMove rd5) wL0 <|
  rO (oIndexAddrV 1 lo1 lo0) wL0 <|
  rO (oLoad1 lo0) wL0 <|
  rO (oI ibNeq lo4 lo0) w24 <|
  rSkip) (rCond rd24 (rSeq (rO (oMove (rdC (.bool false))) w4 <|
  rSkip) rRet) rSkip)))) (rO (oI ibAdd rd13 (rdC (.int 3 (.ofNat 1)))) wL0 <|
  rO (oMove lo0) w13 <|
  rSkip))))))) (rSeq (rO (oMove (rdC (.bool true))) w4 <|
  rSkip) rRet))))
def d47 : DF := .mk [w0, w1] (resT rd4 resNil) c47
def c48 : Run :=
  (rSeq (rO (oMove (rdC (.bool false))) w4 <|
  rSkip) (rSeq (rSeq (rO (oMove rd0) wL0 <|
  rO (oLenV lo0) wL0 <|
  rO (oMove rd1) wL0 <|
  rO (oLenV lo0) wL0 <|
  rO (oI ibNeq lo2 lo0) w10 <|
  rSkip) (rCond rd10 (rSeq (rO (oMove (rdC (.bool false))) w4 <|
  rSkip) rRet) rSkip)) (rSeq (rSeq (rO (oMove rd0) wL0 <|
  rO (oLenV lo0) w12 <|
  rO (oMove (rdC (.int 3 (.ofNat 0)))) w13 <|
  rSkip) (rBlock 0 (rLoop (rSeq (rO (oI ibLss rd13 rd12) w14 <|
  rSkip) (rSeq (rCond rd14 rSkip (rExit 0)) (rSeq (rBlock 1 (rSeq (rO (oMove rd13) wL0 <|
  rO (oMove lo0) w5 <|
  rSkip) (rSeq (rO (oMove rd0) wL0 <|
  rO (oMove rd5) wL0 <|
  rO (oIndexAddrV 1 lo1 lo0) wL0 <|
  rO (oLoad1 lo0) wL0 <|
  rO (oMove rd1) wL0 <|
  rO (oMove rd5) wL0 <|
  rO (oIndexAddrV 1 lo1 lo0) wL0 <|
  rO (oLoad1 lo0) wL0 <|
  rO (oS sbNeq lo4 lo0) w24 <|
  rSkip) (rCond rd24 (rSeq (rO (oMove (rdC (.bool false))) w4 <|
  rSkip) rRet) rSkip)))) (rO (oI ibAdd rd13 (rdC (.int 3 (.ofNat 1)))) wL0 <|
  rO (oMove lo0) w13 <|
  rSkip))))))) (rSeq (rO (oMove (rdC (.bool true))) w4 <|
  rSkip) rRet))))
def d48 : DF := .mk [w0, w1] (resT rd4 resNil) c48
def c56 : Run :=
  (rSeq (rO (oBox rd0) w3 <|
  rO (oAlloc (mkCells [(.oth 1 0 [] []), (.oth 1 0 [] []), (.oth 1 0 [] []), (.oth 1 0 [] []), (.int 3 (.ofNat 0)), (.int 3 (.ofNat 0)), (.oth 1 0 [] [])])) w6 <|
  rO (oMove (rdC (.int 3 (.ofNat 0)))) w7 <|
  rSkip) (rSeq (rO (oLoadN 1 rd3) wL0 <|
  rO (oMove rd1) wL0 <|
  rO (oMove rd2) wL0 <|
  rCall 140 [lo2, lo1, lo0] wL0 <|
  rO (oMove lo0) wL0 <|
  rO (oExtract 0 lo0) wL0 <|
  rO (oExtract 1 lo1) wL0 <|
  rO (oAlloc (mkCells [(.oth 1 0 [] []), (.oth 1 0 [] []), (.oth 1 0 [] []), (.int 3 (.ofNat 0)), (.int 3 (.ofNat 0))])) w8 <|
  rO (oStoreN 5 rd8 lo1) wN <|
  rO (oMove lo0) w9 <|
  rSkip) (rSeq (rSeq (rO (oMove rd9) wL0 <|
  rO (oI ibNeq lo0 (rdC (.int 3 (.ofNat 0)))) w18 <|
  rSkip) (rCond rd18 (rSeq (rO (oBuild [(.oth 1 0 [] []), (.oth 1 0 [] []), (.oth 1 0 [] []), (.oth 1 0 [] []), (.int 3 (.ofNat 0)), (.int 3 (.ofNat 0)), (.oth 1 0 [] [])] []) wL0 <|
  rO (oMove rd9) wL0 <|
  rO (oStoreN 7 rd6 lo1) wN <|
  rO (oMove lo0) w7 <|
  rSkip) rRet) rSkip)) (rSeq (rO (oLoadN 1 rd3) wL0 <|
  rO (oLoadN 5 rd8) wL0 <|
  rO (oBuild [(.oth 1 0 [] []), (.oth 1 0 [] []), (.oth 1 0 [] []), (.oth 1 0 [] []), (.int 3 (.ofNat 0)), (.int 3 (.ofNat 0)), (.oth 1 0 [] [])] [(0, 1, lo1), (1, 5, lo0)]) wL0 <|
  rCall 141 [lo0] wL0 <|
  rO (oStoreN 7 rd6 lo0) wN <|
  rO (oMove (rdC (.int 3 (.ofNat 0)))) w7 <|
  rSkip) rRet))))
def d56 : DF := .mk [w0, w1, w2] (resN 7 rd6 (resT rd7 resNil)) c56
def c61 : Run :=
  (rSeq (rO (oBox rd0) w2 <|
  rO (oBox rd1) w3 <|
  rO (oAlloc (mkCells [(.oth 1 0 [] []), (.oth 1 0 [] []), (.oth 1 0 [] []), (.oth 1 0 [] []), (.int 3 (.ofNat 0)), (.int 3 (.ofNat 0)), (.oth 1 0 [] [])])) w4 <|
  rO (oMove (rdC (.int 3 (.ofNat 0)))) w5 <|
  rSkip) (rSeq (rO (oLoadN 7 rd2) wL0 <|
  rO (oMkFn 145 [] [rd3]) wL0 <|
  rCall 144 [lo1, lo0] wL0 <|
  rO (oExtract 0 lo0) wL0 <|
  rO (oExtract 1 lo1) wL0 <|
  rO (oStoreN 7 rd4 lo1) wN <|
  rO (oMove lo0) w5 <|
  rSkip) rRet))
def d61 : DF := .mk [w0, w1] (resN 7 rd4 (resT rd5 resNil)) c61
def c62 : Run :=
  (rSeq (rO (oAlloc (mkCells [(.oth 1 0 [] [])])) w0 <|
  rSkip) (rSeq (rCall 149 [(rdC (.str 1 97)), (rdC (.oth 1 0 [] []))] wL0 <|
  rCall 150 [(rdC (.str 4 1936027247)), (rdC (.oth 1 0 [] []))] wL0 <|
  rO (oBuildSlice 2 [(.int 3 (.ofNat 0)), (.int 3 (.ofNat 0))] [(0, 1, (rdC (.int 3 (.ofNat 0)))), (1, 1, (rdC (.int 3 (.ofNat 1))))]) wL0 <|
  rCall 149 [(rdC (.str 4 1936617315)), lo0] wL0 <|
  rO (oBuildSlice 3 [(.int 3 (.ofNat 0)), (.str 0 0), (.int 3 (.ofNat 0)), (.oth 1 0 [] []), (.int 3 (.ofNat 0)), (.str 0 0), (.int 3 (.ofNat 0)), (.oth 1 0 [] []), (.int 3 (.ofNat 0)), (.str 0 0), (.int 3 (.ofNat 0)), (.oth 1 0 [] [])] [(0, 4, lo3), (4, 4, lo2), (8, 4, lo0)]) wL0 <|
  rCall 148 [(rdC (.str 4 1936027247)), (rdC (.int 3 (.ofNat 0))), lo0] wL0 <|
  rCall 151 [(rdC (.int 3 (.ofNat 0)))] wL0 <|
  rO (oBuildSlice 1 [(.int 3 (.ofNat 0))] [(0, 1, (rdC (.int 3 (.ofNat 0))))]) wL0 <|
  rCall 150 [(rdC (.str 1 102)), lo0] wL0 <|
  rO (oBuildSlice 2 [(.int 3 (.ofNat 0)), (.str 0 0), (.int 3 (.ofNat 0)), (.oth 1 0 [] []), (.int 3 (.ofNat 0)), (.str 0 0), (.int 3 (.ofNat 0)), (.oth 1 0 [] [])] [(0, 4, lo2), (4, 4, lo0)]) wL0 <|
  rCall 148 [(rdC (.str 1 102)), (rdC (.int 3 (.ofNat 1))), lo0] wL0 <|
  rCall 152 [(rdC (.str 1 103)), (rdC (.oth 1 0 [] []))] wL0 <|
  rO (oBuildSlice 1 [(.int 3 (.ofNat 0))] [(0, 1, (rdC (.int 3 (.ofNat 0))))]) wL0 <|
  rCall 152 [(rdC (.str 1 104)), lo0] wL0 <|
  rO (oBuildSlice 1 [(.int 3 (.ofNat 0))] [(0, 1, (rdC (.int 3 (.ofNat 1))))]) wL0 <|
  rCall 149 [(rdC (.str 1 115)), lo0] wL0 <|
  rO (oBuildSlice 3 [(.int 3 (.ofNat 0)), (.str 0 0), (.int 3 (.ofNat 0)), (.oth 1 0 [] []), (.int 3 (.ofNat 0)), (.str 0 0), (.int 3 (.ofNat 0)), (.oth 1 0 [] []), (.int 3 (.ofNat 0)), (.str 0 0), (.int 3 (.ofNat 0)), (.oth 1 0 [] [])] [(0, 4, lo4), (4, 4, lo2), (8, 4, lo0)]) wL0 <|
  rCall 148 [(rdC (.str 1 103)), (rdC (.int 3 (.ofNat 0))), lo0] wL0 <|
  rCall 151 [(rdC (.int 3 (.ofNat 0)))] wL0 <|
  rO (oBuildSlice 1 [(.int 3 (.ofNat 0)), (.str 0 0), (.int 3 (.ofNat 0)), (.oth 1 0 [] [])] [(0, 4, lo0)]) wL0 <|
  rCall 148 [(rdC (.str 1 104)), (rdC (.int 3 (.ofNat 1))), lo0] wL0 <|
  rO (oBuildSlice 4 [(.str 0 0), (.int 3 (.ofNat 0)), (.oth 1 0 [] []), (.str 0 0), (.int 3 (.ofNat 0)), (.oth 1 0 [] []), (.str 0 0), (.int 3 (.ofNat 0)), (.oth 1 0 [] []), (.str 0 0), (.int 3 (.ofNat 0)), (.oth 1 0 [] [])] [(0, 3, lo15), (3, 3, lo10), (6, 3, lo3), (9, 3, lo0)]) wL0 <|
  rO (oBuild [(.oth 1 0 [] [])] [(0, 1, lo0)]) wL0 <|
  rO (oStoreN 1 rd0 lo0) wN <|
  rSkip) rRet))
def d62 : DF := .mk [] (resN 1 rd0 resNil) c62
def c63 : Run :=
  (rSeq (rO (oAlloc (mkCells [(.oth 1 0 [] []), (.int 3 (.ofNat 0))])) w0 <|
  rSkip) (rSeq (rO (oBuild [(.str 0 0), (.oth 1 0 [] [])] [(0, 1, (rdC (.str 1 97)))]) wL0 <|
  rO (oBuildSlice 1 [(.str 0 0), (.oth 1 0 [] [])] [(0, 2, lo0)]) wL0 <|
  rO (oBuild [(.oth 1 0 [] []), (.int 3 (.ofNat 0))] [(0, 1, lo0)]) wL0 <|
  rO (oStoreN 2 rd0 lo0) wN <|
  rSkip) rRet))
def d63 : DF := .mk [] (resN 2 rd0 resNil) c63
def c64 : Run :=
  (rSeq (rO (oBox rd0) w2 <|
  rO (oBox rd1) w3 <|
  rO (oAlloc (mkCells [(.oth 1 0 [] []), (.oth 1 0 [] []), (.oth 1 0 [] []), (.oth 1 0 [] []), (.int 3 (.ofNat 0)), (.int 3 (.ofNat 0)), (.oth 1 0 [] [])])) w4 <|
  rO (oMove (rdC (.int 3 (.ofNat 0)))) w5 <|
  rSkip) (rSeq (rO (oLoadN 7 rd2) wL0 <|
  rO (oMkFn 153 [] [rd3]) wL0 <|
  rCall 144 [lo1, lo0] wL0 <|
  rO (oExtract 0 lo0) wL0 <|
  rO (oExtract 1 lo1) wL0 <|
  rO (oStoreN 7 rd4 lo1) wN <|
  rO (oMove lo0) w5 <|
  rSkip) rRet))
def d64 : DF := .mk [w0, w1] (resN 7 rd4 (resT rd5 resNil)) c64
def c65 : Run :=
  (rSeq (rO (oBox rd0) w1 <|
  rO (oAlloc (mkCells [(.oth 1 0 [] []), (.oth 1 0 [] []), (.oth 1 0 [] []), (.oth 1 0 [] []), (.int 3 (.ofNat 0)), (.int 3 (.ofNat 0)), (.oth 1 0 [] [])])) w2 <|
  rO (oMove (rdC (.int 3 (.ofNat 0)))) w3 <|
  rSkip) (rSeq (rO (oLoadN 7 rd1) wL0 <|
  rCall 144 [lo0, (rdC (.oth 4 147 [] []))] wL0 <|
  rO (oExtract 0 lo0) wL0 <|
  rO (oExtract 1 lo1) wL0 <|
  rO (oStoreN 7 rd2 lo1) wN <|
  rO (oMove lo0) w3 <|
  rSkip) rRet))
def d65 : DF := .mk [w0] (resN 7 rd2 (resT rd3 resNil)) c65
def c66 : Run :=
  (rSeq (rO (oMove (rdC (.oth 1 0 [] []))) w2 <|
  rSkip) (rSeq (rSeq (rO (oMove rd0) wL0 <|
  rO (oSlNil true lo0) w4 <|
  rSkip) (rCond rd4 (rSeq (rO (oMove (rdC (.oth 1 0 [] []))) w2 <|
  rSkip) rRet) rSkip)) (rSeq (rO (oBuildSlice 0 [] []) wL0 <|
  rO (oMove rd0) wL0 <|
  rO (oAppend 8 lo1 lo0) wL0 <|
  rO (oMove lo0) w2 <|
  rSkip) rRet)))
def d66 : DF := .mk [w0] (resT rd2 resNil) c66
def c67 : Run :=
  (rSeq (rO (oBox rd0) w1 <|
  rO (oAlloc (mkCells [(.oth 1 0 [] []), (.oth 1 0 [] []), (.oth 1 0 [] []), (.oth 1 0 [] []), (.int 3 (.ofNat 0)), (.int 3 (.ofNat 0)), (.oth 1 0 [] [])])) w2 <|
  rO (oMove (rdC (.int 3 (.ofNat 0)))) w3 <|
  rSkip) (rSeq (rO (oLoadN 7 rd1) wL0 <|
  rCall 144 [lo0, (rdC (.oth 4 154 [] []))] wL0 <|
  rO (oExtract 0 lo0) wL0 <|
  rO (oExtract 1 lo1) wL0 <|
  rO (oStoreN 7 rd2 lo1) wN <|
  rO (oMove lo0) w3 <|
  rSkip) rRet))
def d67 : DF := .mk [w0] (resN 7 rd2 (resT rd3 resNil)) c67
def c68 : Run :=
  (rSeq (rO (oBox rd0) w1 <|
  rO (oMove (rdC (.int 3 (.ofNat 0)))) w2 <|
  rSkip) (rSeq (rO (oFieldAddr 0 rd1) wL0 <|
  rO (oLoadN 1 lo0) wL0 <|
  rO (oFieldAddr 1 rd1) wL0 <|
  rO (oLoadN 5 lo0) wL0 <|
  rCall 95 [lo2, lo0] wL0 <|
  rO (oMove lo0) w3 <|
  rSkip) (rSeq (rBlock 0 (rSeq (rO (oMove rd3) wL0 <|
  rO (oI ibNeq lo0 (rdC (.int 3 (.ofNat 0)))) wL0 <|
  rO (oMove lo0) w9 <|
  rSkip) (rCond rd9 (rSeq (rO (oMove rd3) wL0 <|
  rO (oMove lo0) w2 <|
  rSkip) rRet) (rSeq (rO (oFieldAddr 6 rd1) wL0 <|
  rO (oLoad1 lo0) wL0 <|
  rO (oLenV lo0) wL0 <|
  rO (oFieldAddr 1 rd1) wL0 <|
  rO (oFieldAddr 3 lo0) wL0 <|
  rO (oLoad1 lo0) wL0 <|
  rO (oI ibNeq lo3 lo0) wL0 <|
  rO (oMove lo0) wL0 <|
  rG lo0 false wL0 (rO (oFieldAddr 6 rd1) wL0) <|
  rG lo1 false wL0 (rO (oLoad1 lo0) wL0) <|
  rG lo2 false wL0 (rO (oLenV lo0) wL0) <|
  rG lo3 false wL0 (rO (oI ibGtr lo0 (rdC (.int 3 (.ofNat 400)))) wL0) <|
  rO (oPick lo4 (rdC (.bool true)) lo0) wL0 <|
  rO (oMove lo0) w13 <|
  rSkip) (rCond rd13 (rSeq (rO (oMove (rdC (.int 3 (.ofNat 2)))) w2 <|
  rSkip) rRet) (rSeq (rO (oLoadN 7 rd1) wL0 <|
  rCall 155 [lo0] wL0 <|
  rO (oNot lo0) wL0 <|
  rO (oMove lo0) w27 <|
  rSkip) (rCond rd27 (rSeq (rO (oMove (rdC (.int 3 (.ofNat 14)))) w2 <|
  rSkip) rRet) rSkip))))))) (rSeq (rO (oMove (rdC (.int 3 (.ofNat 0)))) w2 <|
  rSkip) rRet))))
def d68 : DF := .mk [w0] (resT rd2 resNil) c68
def c69 : Run :=
  (rSeq (rO (oBox rd0) w1 <|
  rO (oMove (rdC (.bool false))) w2 <|
  rSkip) (rSeq (rO (oFieldAddr 4 rd1) wL0 <|
  rO (oLoad1 lo0) wL0 <|
  rO (oI ibNeq lo0 (rdC (.int 3 (.ofNat 0)))) wL0 <|
  rO (oMove lo0) wL0 <|
  rG lo0 false wL0 (rO (oFieldAddr 2 rd1) wL0) <|
  rG lo1 false wL0 (rO (oLoad1 lo0) wL0) <|
  rG lo2 false wL0 (rO (oLenV lo0) wL0) <|
  rG lo3 false wL0 (rO (oI ibEql lo0 (rdC (.int 3 (.ofNat 0)))) wL0) <|
  rO (oPick lo4 (rdC (.bool true)) lo0) wL0 <|
  rO (oMove lo0) w2 <|
  rSkip) rRet))
def d69 : DF := .mk [w0] (resT rd2 resNil) c69
def c70 : Run :=
  (rSeq (rO (oBox rd0) w2 <|
  rO (oBox rd1) w3 <|
  rO (oAlloc (mkCells [(.oth 1 0 [] []), (.oth 1 0 [] []), (.oth 1 0 [] []), (.int 3 (.ofNat 0)), (.int 3 (.ofNat 0))])) w4 <|
  rO (oMove (rdC (.int 3 (.ofNat 0)))) w5 <|
  rSkip) (rSeq (rO (oLoadN 1 rd2) wL0 <|
  rO (oLoadN 5 rd3) wL0 <|
  rCall 156 [lo1, lo0, (rdC (.int 3 (.ofNat 1)))] wL0 <|
  rO (oExtract 0 lo0) wL0 <|
  rO (oExtract 1 lo1) wL0 <|
  rO (oStoreN 5 rd4 lo1) wN <|
  rO (oMove lo0) w5 <|
  rSkip) rRet))
def d70 : DF := .mk [w0, w1] (resN 5 rd4 (resT rd5 resNil)) c70
def c71 : Run :=
  (rSeq (rO (oBox rd0) w2 <|
  rO (oBox rd1) w3 <|
  rO (oMove (rdC (.bool false))) w4 <|
  rSkip) (rSeq (rO (oMove (rdC (.oth 4 157 [] []))) w5 <|
  rSkip) (rSeq (rO (oMove (rdC (.oth 4 160 [] []))) w6 <|
  rSkip) (rSeq (rO (oFieldAddr 3 rd2) wL0 <|
  rO (oLoad1 lo0) wL0 <|
  rO (oFieldAddr 3 rd3) wL0 <|
  rO (oLoad1 lo0) wL0 <|
  rO (oI ibEql lo2 lo0) wL0 <|
  rO (oMove lo0) wL0 <|
  rG lo0 true wL0 (rO (oFieldAddr 4 rd2) wL0) <|
  rG lo1 true wL0 (rO (oLoad1 lo0) wL0) <|
  rG lo2 true wL0 (rO (oFieldAddr 4 rd3) wL0) <|
  rG lo3 true wL0 (rO (oLoad1 lo0) wL0) <|
  rG lo4 true wL0 (rO (oI ibEql lo2 lo0) wL0) <|
  rO (oPick lo5 lo0 (rdC (.bool false))) wL0 <|
  rO (oMove lo0) wL0 <|
  rG lo0 true wL0 (rO (oFieldAddr 0 rd2) wL0) <|
  rG lo1 true wL0 (rO (oLoad1 lo0) wL0) <|
  rG lo2 true wL0 (rO (oFieldAddr 0 rd3) wL0) <|
  rG lo3 true wL0 (rO (oLoad1 lo0) wL0) <|
  rG lo4 true wL0 (rCall 161 [lo2, lo0, (rdC (.oth 4 162 [] []))] wL0) <|
  rO (oPick lo5 lo0 (rdC (.bool false))) wL0 <|
  rO (oMove lo0) wL0 <|
  rG lo0 true wL0 (rO (oFieldAddr 1 rd2) wL0) <|
  rG lo1 true wL0 (rO (oLoad1 lo0) wL0) <|
  rG lo2 true wL0 (rO (oFieldAddr 1 rd3) wL0) <|
  rG lo3 true wL0 (rO (oLoad1 lo0) wL0) <|
  rG lo4 true wL0 (rO (oMove rd5) wL0) <|
  rG lo5 true wL0 (rCall 163 [lo3, lo1, lo0] wL0) <|
  rO (oPick lo6 lo0 (rdC (.bool false))) wL0 <|
  rO (oMove lo0) wL0 <|
  rG lo0 true wL0 (rO (oFieldAddr 2 rd2) wL0) <|
  rG lo1 true wL0 (rO (oLoad1 lo0) wL0) <|
  rG lo2 true wL0 (rO (oFieldAddr 2 rd3) wL0) <|
  rG lo3 true wL0 (rO (oLoad1 lo0) wL0) <|
  rG lo4 true wL0 (rO (oMove rd6) wL0) <|
  rG lo5 true wL0 (rCall 164 [lo3, lo1, lo0] wL0) <|
  rO (oPick lo6 lo0 (rdC (.bool false))) wL0 <|
  rO (oMove lo0) w4 <|
  rSkip) rRet))))
def d71 : DF := .mk [w0, w1] (resT rd4 resNil) c71
def c76 : Run :=
  (rSeq (rO (oMove (rdC (.bool false))) w4 <|
  rSkip) (rSeq (rO (oMove rd0) wL0 <|
  rO (oMove rd1) wL0 <|
  rCall 170 [lo1, lo0] wL0 <|
  rO (oI ibGeq lo0 (rdC (.int 3 (.ofNat 0)))) wL0 <|
  rO (oMove lo0) w4 <|
  rSkip) rRet))
def d76 : DF := .mk [w0, w1] (resT rd4 resNil) c76
def c80 : Run :=
  (rSeq (rO (oMove (rdC (.bool false))) w4 <|
  rSkip) (rSeq (rO (oMove rd0) wL0 <|
  rO (oMove rd1) wL0 <|
  rCall 172 [lo1, lo0] wL0 <|
  rO (oI ibGeq lo0 (rdC (.int 3 (.ofNat 0)))) wL0 <|
  rO (oMove lo0) w4 <|
  rSkip) rRet))
def d80 : DF := .mk [w0, w1] (resT rd4 resNil) c80
def c95 : Run :=
  (rSeq (rO (oBox rd0) w2 <|
  rO (oBox rd1) w3 <|
  rO (oMove (rdC (.int 3 (.ofNat 0)))) w4 <|
  rSkip) (rSeq (rSeq (rO (oLoadN 1 rd2) wL0 <|
  rCall 181 [lo0] wL0 <|
  rO (oMove lo0) w5 <|
  rSkip) (rSeq (rO (oMove rd5) wL0 <|
  rO (oI ibNeq lo0 (rdC (.int 3 (.ofNat 0)))) w11 <|
  rSkip) (rCond rd11 (rSeq (rO (oMove rd5) wL0 <|
  rO (oMove lo0) w4 <|
  rSkip) rRet) rSkip))) (rSeq (rSeq (rO (oFieldAddr 1 rd3) wL0 <|
  rO (oLoad1 lo0) wL0 <|
  rO (oLenV lo0) wL0 <|
  rO (oI ibGtr lo0 (rdC (.int 3 (.ofNat 40)))) wL0 <|
  rO (oMove lo0) wL0 <|
  rG lo0 false wL0 (rO (oFieldAddr 2 rd3) wL0) <|
  rG lo1 false wL0 (rO (oLoad1 lo0) wL0) <|
  rG lo2 false wL0 (rO (oLenV lo0) wL0) <|
  rG lo3 false wL0 (rO (oFieldAddr 1 rd3) wL0) <|
  rG lo4 false wL0 (rO (oLoad1 lo0) wL0) <|
  rG lo5 false wL0 (rO (oLenV lo0) wL0) <|
  rG lo6 false wL0 (rO (oI ibGtr lo3 lo0) wL0) <|
  rO (oPick lo7 (rdC (.bool true)) lo0) wL0 <|
  rO (oMove lo0) wL0 <|
  rG lo0 false wL0 (rO (oFieldAddr 0 rd3) wL0) <|
  rG lo1 false wL0 (rO (oLoad1 lo0) wL0) <|
  rG lo2 false wL0 (rO (oLenV lo0) wL0) <|
  rG lo3 false wL0 (rO (oI ibGtr lo0 (rdC (.int 3 (.ofNat 200000)))) wL0) <|
  rO (oPick lo4 (rdC (.bool true)) lo0) w31 <|
  rSkip) (rCond rd31 (rSeq (rO (oMove (rdC (.int 3 (.ofNat 2)))) w4 <|
  rSkip) rRet) rSkip)) (rSeq (rSeq (rO (oLoadN 5 rd3) wL0 <|
  rCall 182 [lo0] wL0 <|
  rO (oMove lo0) w6 <|
  rSkip) (rSeq (rO (oMove rd6) wL0 <|
  rO (oI ibNeq lo0 (rdC (.int 3 (.ofNat 0)))) w35 <|
  rSkip) (rCond rd35 (rSeq (rO (oMove rd6) wL0 <|
  rO (oMove lo0) w4 <|
  rSkip) rRet) rSkip))) (rSeq (rSeq (rO (oLoadN 1 rd2) wL0 <|
  rO (oLoadN 5 rd3) wL0 <|
  rCall 183 [lo1, lo0] wL0 <|
  rO (oMove lo0) w7 <|
  rSkip) (rSeq (rO (oMove rd7) wL0 <|
  rO (oI ibNeq lo0 (rdC (.int 3 (.ofNat 0)))) w41 <|
  rSkip) (rCond rd41 (rSeq (rO (oMove rd7) wL0 <|
  rO (oMove lo0) w4 <|
  rSkip) rRet) rSkip))) (rSeq (rO (oLoadN 1 rd2) wL0 <|
  rO (oLoadN 5 rd3) wL0 <|
  rCall 184 [lo1, lo0] wL0 <|
  rO (oMove lo0) w4 <|
  rSkip) rRet))))))
def d95 : DF := .mk [w0, w1] (resT rd4 resNil) c95
def c96 : Run :=
  (rSeq (rO (oBox rd0) w2 <|
  rO (oBox rd1) w3 <|
  rO (oAlloc (mkCells [(.oth 1 0 [] []), (.oth 1 0 [] []), (.oth 1 0 [] []), (.int 3 (.ofNat 0)), (.int 3 (.ofNat 0))])) w4 <|
  rO (oAlloc (mkCells [(.int 3 (.ofNat 0)), (.bool false), (.bool false), (.int 3 (.ofNat 0)), (.int 3 (.ofNat 0)), (.oth 1 0 [] []), (.bool false), (.int 3 (.ofNat 0))])) w5 <|
  rO (oMove (rdC (.int 3 (.ofNat 0)))) w6 <|
  rSkip) (rSeq (rSeq (rO (oLoadN 5 rd3) wL0 <|
  rCall 69 [lo0] w10 <|
  rSkip) (rCond rd10 (rSeq (rO (oBuild [(.oth 1 0 [] []), (.oth 1 0 [] []), (.oth 1 0 [] []), (.int 3 (.ofNat 0)), (.int 3 (.ofNat 0))] []) wL0 <|
  rO (oBuild [(.int 3 (.ofNat 0)), (.bool false), (.bool false), (.int 3 (.ofNat 0)), (.int 3 (.ofNat 0)), (.oth 1 0 [] []), (.bool false), (.int 3 (.ofNat 0))] []) wL0 <|
  rO (oStoreN 5 rd4 lo1) wN <|
  rO (oStoreN 8 rd5 lo0) wN <|
  rO (oMove (rdC (.int 3 (.ofNat 6)))) w6 <|
  rSkip) rRet) rSkip)) (rSeq (rO (oLoadN 1 rd2) wL0 <|
  rO (oLoadN 5 rd3) wL0 <|
  rCall 70 [lo1, lo0] wL0 <|
  rO (oMove lo0) wL0 <|
  rO (oExtract 0 lo0) wL0 <|
  rO (oExtract 1 lo1) wL0 <|
  rO (oAlloc (mkCells [(.oth 1 0 [] []), (.oth 1 0 [] []), (.oth 1 0 [] []), (.int 3 (.ofNat 0)), (.int 3 (.ofNat 0))])) w7 <|
  rO (oStoreN 5 rd7 lo1) wN <|
  rO (oMove lo0) w8 <|
  rSkip) (rSeq (rSeq (rO (oMove rd8) wL0 <|
  rO (oI ibNeq lo0 (rdC (.int 3 (.ofNat 0)))) w20 <|
  rSkip) (rCond rd20 (rSeq (rO (oBuild [(.oth 1 0 [] []), (.oth 1 0 [] []), (.oth 1 0 [] []), (.int 3 (.ofNat 0)), (.int 3 (.ofNat 0))] []) wL0 <|
  rO (oBuild [(.int 3 (.ofNat 0)), (.bool false), (.bool false), (.int 3 (.ofNat 0)), (.int 3 (.ofNat 0)), (.oth 1 0 [] []), (.bool false), (.int 3 (.ofNat 0))] []) wL0 <|
  rO (oMove rd8) wL0 <|
  rO (oStoreN 5 rd4 lo2) wN <|
  rO (oStoreN 8 rd5 lo1) wN <|
  rO (oMove lo0) w6 <|
  rSkip) rRet) rSkip)) (rSeq (rO (oLoadN 5 rd7) wL0 <|
  rO (oLoadN 5 rd3) wL0 <|
  rO (oLoadN 5 rd7) wL0 <|
  rCall 185 [lo1, lo0] wL0 <|
  rChk (oLoadN 5 rd7) lo3 <|
  rO (oStoreN 5 rd4 lo3) wN <|
  rO (oStoreN 8 rd5 lo0) wN <|
  rO (oMove (rdC (.int 3 (.ofNat 0)))) w6 <|
  rSkip) rRet)))))
def d96 : DF := .mk [w0, w1] (resN 5 rd4 (resN 8 rd5 (resT rd6 resNil))) c96
def c97 : Run :=
  (rSeq (rO (oBox rd0) w2 <|
  rO (oBox rd1) w3 <|
  rO (oMove (rdC (.bool false))) w4 <|
  rSkip) (rSeq (rO (oLoadN 5 rd2) wL0 <|
  rCall 186 [lo0] wL0 <|
  rO (oAlloc (mkCells [(.int 3 (.ofNat 0)), (.int 3 (.ofNat 0)), (.int 3 (.ofNat 0)), (.int 3 (.ofNat 0))])) w5 <|
  rO (oStoreN 4 rd5 lo0) wN <|
  rSkip) (rSeq (rO (oIndexAddrA 4 1 rd5 (rdC (.int 3 (.ofNat 2)))) wL0 <|
  rO (oLoad1 lo0) wL0 <|
  rO (oI ibSub lo0 (rdC (.int 3 (.ofNat 1)))) wL0 <|
  rO (oMove lo0) w6 <|
  rSkip) (rSeq (rBlock 0 (rSeq (rO (oFieldAddr 3 rd2) wL0 <|
  rO (oLoad1 lo0) wL0 <|
  rO (oI ibEql lo0 (rdC (.int 3 (.ofNat 0)))) wL0 <|
  rO (oMove lo0) wL0 <|
  rG lo0 false wL0 (rO (oFieldAddr 4 rd2) wL0) <|
  rG lo1 false wL0 (rO (oLoad1 lo0) wL0) <|
  rG lo2 false wL0 (rO (oFieldAddr 7 rd3) wL0) <|
  rG lo3 false wL0 (rO (oLoad1 lo0) wL0) <|
  rG lo4 false wL0 (rO (oI ibNeq lo2 lo0) wL0) <|
  rO (oPick lo5 (rdC (.bool true)) lo0) wL0 <|
  rO (oMove lo0) w13 <|
  rSkip) (rCond rd13 (rSeq (rO (oMove (rdC (.bool false))) w4 <|
  rSkip) rRet) (rSeq (rO (oFieldAddr 7 rd3) wL0 <|
  rO (oLoad1 lo0) wL0 <|
  rO (oI ibNeq lo0 (rdC (.int 3 (.ofNat 0)))) wL0 <|
  rO (oMove lo0) w24 <|
  rSkip) (rCond rd24 (rSeq (rO (oFieldAddr 0 rd3) wL0 <|
  rO (oLoad1 lo0) wL0 <|
  rO (oI ibEql lo0 (rdC (.int 3 (.ofNat 0)))) wL0 <|
  rO (oMove lo0) wL0 <|
  rG lo0 true wL0 (rO (oFieldAddr 1 rd3) wL0) <|
  rG lo1 true wL0 (rO (oLoad1 lo0) wL0) <|
  rG lo2 true wL0 (rO (oNot lo0) wL0) <|
  rO (oPick lo3 lo0 (rdC (.bool false))) wL0 <|
  rO (oMove lo0) wL0 <|
  rG lo0 true wL0 (rO (oFieldAddr 2 rd3) wL0) <|
  rG lo1 true wL0 (rO (oLoad1 lo0) wL0) <|
  rG lo2 true wL0 (rO (oNot lo0) wL0) <|
  rO (oPick lo3 lo0 (rdC (.bool false))) wL0 <|
  rO (oMove lo0) wL0 <|
  rG lo0 true wL0 (rO (oFieldAddr 6 rd3) wL0) <|
  rG lo1 true wL0 (rO (oLoad1 lo0) wL0) <|
  rG lo2 true wL0 (rO (oNot lo0) wL0) <|
  rO (oPick lo3 lo0 (rdC (.bool false))) wL0 <|
  rO (oMove lo0) w4 <|
  rSkip) rRet) (rSeq (rO (oFieldAddr 0 rd3) wL0 <|
  rO (oLoad1 lo0) wL0 <|
  rO (oI ibLss lo0 (rdC (.int 3 (.ofNat 0)))) wL0 <|
  rO (oMove lo0) wL0 <|
  rG lo0 false wL0 (rO (oFieldAddr 0 rd3) wL0) <|
  rG lo1 false wL0 (rO (oLoad1 lo0) wL0) <|
  rG lo2 false wL0 (rO (oIndexAddrA 4 1 rd5 (rdC (.int 3 (.ofNat 0)))) wL0) <|
  rG lo3 false wL0 (rO (oLoad1 lo0) wL0) <|
  rG lo4 false wL0 (rO (oI ibGtr lo2 lo0) wL0) <|
  rO (oPick lo5 (rdC (.bool true)) lo0) wL0 <|
  rO (oMove lo0) w46 <|
  rSkip) (rCond rd46 (rSeq (rO (oMove (rdC (.bool false))) w4 <|
  rSkip) rRet) (rSeq (rO (oFieldAddr 2 rd3) wL0 <|
  rO (oLoad1 lo0) wL0 <|
  rO (oMove lo0) wL0 <|
  rG lo0 true wL0 (rO (oFieldAddr 1 rd3) wL0) <|
  rG lo1 true wL0 (rO (oLoad1 lo0) wL0) <|
  rG lo2 true wL0 (rO (oMove lo0) wL0) <|
  rG lo0 false wL0 (rO (oFieldAddr 6 rd3) wL0) <|
  rG lo1 false wL0 (rO (oLoad1 lo0) wL0) <|
  rG lo5 true wL0 (rO (oPick lo2 (rdC (.bool true)) lo0) wL0) <|
  rO (oPick lo6 lo0 (rdC (.bool false))) wL0 <|
  rO (oMove lo0) wL0 <|
  rG lo0 false wL0 (rO (oFieldAddr 1 rd3) wL0) <|
  rG lo1 false wL0 (rO (oLoad1 lo0) wL0) <|
  rG lo2 false wL0 (rO (oMove lo0) wL0) <|
  rG lo0 true wL0 (rO (oFieldAddr 6 rd3) wL0) <|
  rG lo1 true wL0 (rO (oLoad1 lo0) wL0) <|
  rG lo5 false wL0 (rO (oPick lo2 lo0 (rdC (.bool false))) wL0) <|
  rO (oPick lo6 (rdC (.bool true)) lo0) wL0 <|
  rO (oMove lo0) w57 <|
  rSkip) (rCond rd57 (rSeq (rO (oMove (rdC (.bool false))) w4 <|
  rSkip) rRet) (rSeq (rO (oFieldAddr 1 rd3) wL0 <|
  rO (oLoad1 lo0) wL0 <|
  rO (oMove lo0) w76 <|
  rSkip) (rCond rd76 (rSeq (rO (oIndexAddrA 4 1 rd5 (rdC (.int 3 (.ofNat 1)))) wL0 <|
  rO (oLoad1 lo0) wL0 <|
  rO (oI ibGtr lo0 (rdC (.int 3 (.ofNat 0)))) wL0 <|
  rO (oMove lo0) wL0 <|
  rG lo0 true wL0 (rO (oMove rd6) wL0) <|
  rG lo1 true wL0 (rO (oI ibGeq lo0 (rdC (.int 3 (.ofNat 0)))) wL0) <|
  rO (oPick lo2 lo0 (rdC (.bool false))) wL0 <|
  rO (oMove lo0) wL0 <|
  rG lo0 true wL0 (rO (oFieldAddr 2 rd2) wL0) <|
  rG lo1 true wL0 (rO (oLoad1 lo0) wL0) <|
  rG lo2 true wL0 (rO (oMove rd6) wL0) <|
  rG lo3 true wL0 (rO (oIndexAddrV 3 lo1 lo0) wL0) <|
  rG lo4 true wL0 (rO (oFieldAddr 0 lo0) wL0) <|
  rG lo5 true wL0 (rO (oLoad1 lo0) wL0) <|
  rG lo6 true wL0 (rO (oIndexAddrA 4 1 rd5 (rdC (.int 3 (.ofNat 1)))) wL0) <|
  rG lo7 true wL0 (rO (oLoad1 lo0) wL0) <|
  rG lo8 true wL0 (rO (oI ibSub lo0 (rdC (.int 3 (.ofNat 1)))) wL0) <|
  rG lo9 true wL0 (rO (oI ibEql lo3 lo0) wL0) <|
  rO (oPick lo10 lo0 (rdC (.bool false))) wL0 <|
  rO (oMove lo0) wL0 <|
  rG lo0 true wL0 (rO (oFieldAddr 2 rd2) wL0) <|
  rG lo1 true wL0 (rO (oLoad1 lo0) wL0) <|
  rG lo2 true wL0 (rO (oMove rd6) wL0) <|
  rG lo3 true wL0 (rO (oIndexAddrV 3 lo1 lo0) wL0) <|
  rG lo4 true wL0 (rO (oFieldAddr 1 lo0) wL0) <|
  rG lo5 true wL0 (rO (oLoad1 lo0) wL0) <|
  rG lo6 true wL0 (rO (oI ibEql lo0 (rdC (.int 3 (.ofNat 0)))) wL0) <|
  rO (oPick lo7 lo0 (rdC (.bool false))) wL0 <|
  rO (oMove lo0) wL0 <|
  rG lo0 true wL0 (rO (oIndexAddrA 4 1 rd5 (rdC (.int 3 (.ofNat 3)))) wL0) <|
  rG lo1 true wL0 (rO (oLoad1 lo0) wL0) <|
  rG lo2 true wL0 (rO (oI ibEql lo0 (rdC (.int 3 (.ofNat 0)))) wL0) <|
  rO (oPick lo3 lo0 (rdC (.bool false))) wL0 <|
  rO (oMove lo0) w4 <|
  rSkip) rRet) (rSeq (rO (oFieldAddr 2 rd3) wL0 <|
  rO (oLoad1 lo0) wL0 <|
  rO (oMove lo0) w112 <|
  rSkip) (rCond rd112 (rSeq (rO (oFieldAddr 3 rd3) wL0 <|
  rO (oFieldAddr 0 lo0) wL0 <|
  rO (oLoad1 lo0) wL0 <|
  rO (oMove lo0) w7 <|
  rSkip) (rSeq (rO (oMove rd7) wL0 <|
  rO (oI ibGeq lo0 (rdC (.int 3 (.ofNat 0)))) wL0 <|
  rO (oMove lo0) wL0 <|
  rG lo0 true wL0 (rO (oMove rd7) wL0) <|
  rG lo1 true wL0 (rO (oIndexAddrA 4 1 rd5 (rdC (.int 3 (.ofNat 1)))) wL0) <|
  rG lo2 true wL0 (rO (oLoad1 lo0) wL0) <|
  rG lo3 true wL0 (rO (oI ibLss lo2 lo0) wL0) <|
  rO (oPick lo4 lo0 (rdC (.bool false))) wL0 <|
  rO (oMove lo0) wL0 <|
  rG lo0 true wL0 (rO (oFieldAddr 1 rd2) wL0) <|
  rG lo1 true wL0 (rO (oLoad1 lo0) wL0) <|
  rG lo2 true wL0 (rO (oMove rd7) wL0) <|
  rG lo3 true wL0 (rO (oIndexAddrV 5 lo1 lo0) wL0) <|
  rG lo4 true wL0 (rO (oFieldAddr 3 lo0) wL0) <|
  rG lo5 true wL0 (rO (oLoad1 lo0) wL0) <|
  rO (oPick lo6 lo0 (rdC (.bool false))) wL0 <|
  rO (oMove lo0) wL0 <|
  rG lo0 true wL0 (rO (oFieldAddr 3 rd3) wL0) <|
  rG lo1 true wL0 (rO (oFieldAddr 2 lo0) wL0) <|
  rG lo2 true wL0 (rO (oLoad1 lo0) wL0) <|
  rG lo3 true wL0 (rO (oLenV lo0) wL0) <|
  rG lo4 true wL0 (rO (oFieldAddr 3 rd3) wL0) <|
  rG lo5 true wL0 (rO (oFieldAddr 1 lo0) wL0) <|
  rG lo6 true wL0 (rO (oLoad1 lo0) wL0) <|
  rG lo7 true wL0 (rO (oI ibEql lo3 lo0) wL0) <|
  rO (oPick lo8 lo0 (rdC (.bool false))) wL0 <|
  rO (oMove lo0) w4 <|
  rSkip) rRet)) (rSeq (rO (oFieldAddr 6 rd3) wL0 <|
  rO (oLoad1 lo0) wL0 <|
  rO (oMove lo0) w144 <|
  rSkip) (rCond rd144 (rSeq (rO (oIndexAddrA 4 1 rd5 (rdC (.int 3 (.ofNat 3)))) wL0 <|
  rO (oLoad1 lo0) wL0 <|
  rO (oI ibGtr lo0 (rdC (.int 3 (.ofNat 0)))) wL0 <|
  rO (oMove lo0) w4 <|
  rSkip) rRet) rSkip))))))))))))))) (rSeq (rO (oMove (rdC (.bool true))) w4 <|
  rSkip) rRet)))))
def d97 : DF := .mk [w0, w1] (resT rd4 resNil) c97
def c98 : Run :=
  (rSeq (rO (oBox rd0) w1 <|
  rO (oAlloc (mkCells [(.oth 1 0 [] []), (.oth 1 0 [] []), (.oth 1 0 [] []), (.int 3 (.ofNat 0)), (.int 3 (.ofNat 0))])) w2 <|
  rSkip) (rSeq (rO (oFieldAddr 0 rd1) wL0 <|
  rO (oLoad1 lo0) wL0 <|
  rO (oFieldAddr 1 rd1) wL0 <|
  rO (oLoad1 lo0) wL0 <|
  rO (oFieldAddr 2 rd1) wL0 <|
  rO (oLoad1 lo0) wL0 <|
  rCall 187 [lo4] wL0 <|
  rChk (oLoad1 lo2) lo1 <|
  rChk (oLoad1 lo4) lo3 <|
  rO (oFieldAddr 0 rd1) wL0 <|
  rCall 188 [lo4] wL0 <|
  rChk (oLoad1 lo4) lo3 <|
  rCall 189 [lo3] wL0 <|
  rO (oStore1 lo2 lo3) wN <|
  rO (oFieldAddr 1 rd1) wL0 <|
  rO (oStore1 lo0 lo2) wN <|
  rO (oFieldAddr 2 rd1) wL0 <|
  rO (oStore1 lo0 lo2) wN <|
  rSkip) (rSeq (rSeq (rO (oFieldAddr 0 rd1) wL0 <|
  rO (oLoad1 lo0) wL0 <|
  rO (oLenV lo0) w23 <|
  rO (oMove (rdC (.int 3 (.ofNat 0)))) w24 <|
  rSkip) (rBlock 0 (rLoop (rSeq (rO (oI ibLss rd24 rd23) w25 <|
  rSkip) (rSeq (rCond rd25 rSkip (rExit 0)) (rSeq (rBlock 1 (rSeq (rO (oMove rd24) wL0 <|
  rO (oMove lo0) w3 <|
  rSkip) (rO (oFieldAddr 0 rd1) wL0 <|
  rO (oLoad1 lo0) wL0 <|
  rO (oMove rd3) wL0 <|
  rO (oFieldAddr 0 rd1) wL0 <|
  rO (oLoad1 lo0) wL0 <|
  rO (oMove rd3) wL0 <|
  rO (oIndexAddrV 2 lo1 lo0) wL0 <|
  rO (oFieldAddr 1 lo0) wL0 <|
  rO (oLoad1 lo0) wL0 <|
  rCall 40 [lo0] wL0 <|
  rChk (oLoad1 lo9) lo8 <|
  rO (oIndexAddrV 2 lo8 lo7) wL0 <|
  rO (oFieldAddr 1 lo0) wL0 <|
  rO (oStore1 lo0 lo2) wN <|
  rSkip))) (rO (oI ibAdd rd24 (rdC (.int 3 (.ofNat 1)))) wL0 <|
  rO (oMove lo0) w24 <|
  rSkip))))))) (rSeq (rSeq (rO (oFieldAddr 1 rd1) wL0 <|
  rO (oLoad1 lo0) wL0 <|
  rO (oLenV lo0) w42 <|
  rO (oMove (rdC (.int 3 (.ofNat 0)))) w43 <|
  rSkip) (rBlock 2 (rLoop (rSeq (rO (oI ibLss rd43 rd42) w44 <|
  rSkip) (rSeq (rCond rd44 rSkip (rExit 2)) (rSeq (rBlock 3 (rSeq (rO (oMove rd43) wL0 <|
  rO (oMove lo0) w4 <|
  rSkip) (rSeq (rO (oFieldAddr 1 rd1) wL0 <|
  rO (oLoad1 lo0) wL0 <|
  rO (oMove rd4) wL0 <|
  rO (oIndexAddrV 5 lo1 lo0) wL0 <|
  rO (oMove lo0) w5 <|
  rSkip) (rSeq (rO (oMove rd5) wL0 <|
  rO (oMove rd5) wL0 <|
  rO (oNilCheck lo0) wL0 <|
  rO (oFieldAddr 2 lo0) wL0 <|
  rO (oLoad1 lo0) wL0 <|
  rCall 190 [lo0] wL0 <|
  rO (oNilCheck lo5) wL0 <|
  rO (oFieldAddr 2 lo0) wL0 <|
  rO (oStore1 lo0 lo2) wN <|
  rSkip) (rSeq (rO (oMove rd5) wL0 <|
  rO (oNilCheck lo0) wL0 <|
  rO (oFieldAddr 2 lo0) wL0 <|
  rO (oLoad1 lo0) wL0 <|
  rO (oLenV lo0) w62 <|
  rO (oMove (rdC (.int 3 (.ofNat 0)))) w63 <|
  rSkip) (rBlock 4 (rLoop (rSeq (rO (oI ibLss rd63 rd62) w64 <|
  rSkip) (rSeq (rCond rd64 rSkip (rExit 4)) (rSeq (rBlock 5 (rSeq (rO (oMove rd63) wL0 <|
  rO (oMove lo0) w6 <|
  rSkip) (rSeq (rO (oMove rd5) wL0 <|
  rO (oNilCheck lo0) wL0 <|
  rO (oFieldAddr 2 lo0) wL0 <|
  rO (oLoad1 lo0) wL0 <|
  rO (oMove rd6) wL0 <|
  rO (oMove rd5) wL0 <|
  rO (oNilCheck lo0) wL0 <|
  rO (oFieldAddr 2 lo0) wL0 <|
  rO (oLoad1 lo0) wL0 <|
  rO (oMove rd6) wL0 <|
  rO (oIndexAddrV 2 lo1 lo0) wL0 <|
  rO (oFieldAddr 0 lo0) wL0 <|
  rO (oLoad1 lo0) wL0 <|
  rCall 187 [lo0] wL0 <|
  rChk (oLoad1 lo11) lo10 <|
  rO (oIndexAddrV 2 lo10 lo9) wL0 <|
  rO (oFieldAddr 0 lo0) wL0 <|
  rO (oStore1 lo0 lo2) wN <|
  rSkip) (rSeq (rO (oMove rd5) wL0 <|
  rO (oNilCheck lo0) wL0 <|
  rO (oFieldAddr 2 lo0) wL0 <|
  rO (oLoad1 lo0) wL0 <|
  rO (oMove rd6) wL0 <|
  rO (oIndexAddrV 2 lo1 lo0) wL0 <|
  rO (oFieldAddr 0 lo0) wL0 <|
  rO (oLoad1 lo0) wL0 <|
  rO (oLenV lo0) w90 <|
  rO (oMove (rdC (.int 3 (.ofNat 0)))) w91 <|
  rSkip) (rBlock 6 (rLoop (rSeq (rO (oI ibLss rd91 rd90) w92 <|
  rSkip) (rSeq (rCond rd92 rSkip (rExit 6)) (rSeq (rBlock 7 (rSeq (rO (oMove rd91) wL0 <|
  rO (oMove lo0) w7 <|
  rSkip) (rO (oMove rd5) wL0 <|
  rO (oNilCheck lo0) wL0 <|
  rO (oFieldAddr 2 lo0) wL0 <|
  rO (oLoad1 lo0) wL0 <|
  rO (oMove rd6) wL0 <|
  rO (oIndexAddrV 2 lo1 lo0) wL0 <|
  rO (oFieldAddr 0 lo0) wL0 <|
  rO (oLoad1 lo0) wL0 <|
  rO (oMove rd7) wL0 <|
  rO (oMove rd5) wL0 <|
  rO (oNilCheck lo0) wL0 <|
  rO (oFieldAddr 2 lo0) wL0 <|
  rO (oLoad1 lo0) wL0 <|
  rO (oMove rd6) wL0 <|
  rO (oIndexAddrV 2 lo1 lo0) wL0 <|
  rO (oFieldAddr 0 lo0) wL0 <|
  rO (oLoad1 lo0) wL0 <|
  rO (oMove rd7) wL0 <|
  rO (oIndexAddrV 2 lo1 lo0) wL0 <|
  rO (oFieldAddr 1 lo0) wL0 <|
  rO (oLoad1 lo0) wL0 <|
  rCall 40 [lo0] wL0 <|
  rChk (oLoad1 lo15) lo14 <|
  rChk (oLoad1 lo19) lo18 <|
  rO (oIndexAddrV 2 lo14 lo13) wL0 <|
  rO (oFieldAddr 1 lo0) wL0 <|
  rO (oStore1 lo0 lo2) wN <|
  rSkip))) (rO (oI ibAdd rd91 (rdC (.int 3 (.ofNat 1)))) wL0 <|
  rO (oMove lo0) w91 <|
  rSkip)))))))))) (rO (oI ibAdd rd63 (rdC (.int 3 (.ofNat 1)))) wL0 <|
  rO (oMove lo0) w63 <|
  rSkip))))))))))) (rO (oI ibAdd rd43 (rdC (.int 3 (.ofNat 1)))) wL0 <|
  rO (oMove lo0) w43 <|
  rSkip))))))) (rSeq (rSeq (rO (oFieldAddr 2 rd1) wL0 <|
  rO (oLoad1 lo0) wL0 <|
  rO (oLenV lo0) w123 <|
  rO (oMove (rdC (.int 3 (.ofNat 0)))) w124 <|
  rSkip) (rBlock 8 (rLoop (rSeq (rO (oI ibLss rd124 rd123) w125 <|
  rSkip) (rSeq (rCond rd125 rSkip (rExit 8)) (rSeq (rBlock 9 (rSeq (rO (oMove rd124) wL0 <|
  rO (oMove lo0) w8 <|
  rSkip) (rO (oFieldAddr 2 rd1) wL0 <|
  rO (oLoad1 lo0) wL0 <|
  rO (oMove rd8) wL0 <|
  rO (oFieldAddr 2 rd1) wL0 <|
  rO (oLoad1 lo0) wL0 <|
  rO (oMove rd8) wL0 <|
  rO (oIndexAddrV 3 lo1 lo0) wL0 <|
  rO (oLoadN 3 lo0) wL0 <|
  rCall 99 [lo0] wL0 <|
  rChk (oLoad1 lo8) lo7 <|
  rO (oIndexAddrV 3 lo7 lo6) wL0 <|
  rO (oStoreN 3 lo0 lo1) wN <|
  rSkip))) (rO (oI ibAdd rd124 (rdC (.int 3 (.ofNat 1)))) wL0 <|
  rO (oMove lo0) w124 <|
  rSkip))))))) (rSeq (rO (oLoadN 5 rd1) wL0 <|
  rO (oStoreN 5 rd2 lo0) wN <|
  rSkip) rRet))))))
def d98 : DF := .mk [w0] (resN 5 rd2 resNil) c98
def c99 : Run :=
  (rSeq (rO (oBox rd0) w1 <|
  rO (oAlloc (mkCells [(.int 3 (.ofNat 0)), (.int 3 (.ofNat 0)), (.oth 1 0 [] [])])) w2 <|
  rSkip) (rSeq (rO (oFieldAddr 2 rd1) wL0 <|
  rO (oLoad1 lo0) wL0 <|
  rCall 40 [lo0] wL0 <|
  rO (oFieldAddr 2 rd1) wL0 <|
  rO (oStore1 lo0 lo1) wN <|
  rSkip) (rSeq (rO (oLoadN 3 rd1) wL0 <|
  rO (oStoreN 3 rd2 lo0) wN <|
  rSkip) rRet)))
def d99 : DF := .mk [w0] (resN 3 rd2 resNil) c99
def c109 : Run :=
  (rSeq (rO (oBox rd0) w1 <|
  rO (oMove (rdC (.oth 1 0 [] []))) w2 <|
  rSkip) (rSeq (rO (oAlloc (mkCells [(.oth 1 0 [] [])])) w3 <|
  rSkip) (rSeq (rSeq (rO (oLoadN 7 rd1) wL0 <|
  rCall 116 [lo0] w8 <|
  rSkip) (rBlock 0 (rRange rd8 2))) (rSeq (rO (oLoad1 rd3) wL0 <|
  rO (oMove lo0) w2 <|
  rSkip) rRet))))
def d109 : DF := .mk [w0] (resT rd2 resNil) c109
def c110 : Run :=
  (rSeq (rO (oAlloc (mkCells [(.int 3 (.ofNat 0)), (.int 3 (.ofNat 0)), (.int 3 (.ofNat 0)), (.int 3 (.ofNat 0))])) w4 <|
  rO (oMove (rdC (.bool false))) w5 <|
  rSkip) (rSeq (rO (oAlloc (mkCells [(.int 3 (.ofNat 0)), (.int 3 (.ofNat 0)), (.int 3 (.ofNat 0)), (.int 3 (.ofNat 0))])) w6 <|
  rSkip) (rSeq (rO (oMove rd0) wL0 <|
  rO (oMove rd1) wL0 <|
  rCall 193 [lo1, lo0] wL0 <|
  rO (oMove lo0) w7 <|
  rSkip) (rSeq (rSeq (rO (oMove rd7) wL0 <|
  rO (oI ibLss lo0 (rdC (.int 3 (.ofNat 0)))) w12 <|
  rSkip) (rCond rd12 (rSeq (rO (oLoadN 4 rd6) wL0 <|
  rO (oStoreN 4 rd4 lo0) wN <|
  rO (oMove (rdC (.bool false))) w5 <|
  rSkip) rRet) rSkip)) (rSeq (rO (oMove rd0) wL0 <|
  rO (oMove rd7) wL0 <|
  rO (oIndexAddrV 4 lo1 lo0) wL0 <|
  rO (oLoadN 4 lo0) wL0 <|
  rO (oStoreN 4 rd4 lo0) wN <|
  rO (oMove (rdC (.bool true))) w5 <|
  rSkip) rRet)))))
def d110 : DF := .mk [w0, w1] (resN 4 rd4 (resT rd5 resNil)) c110
def c111 : Run :=
  (rSeq (rO (oBox rd0) w2 <|
  rO (oMove (rdC (.bool false))) w3 <|
  rSkip) (rSeq (rO (oFieldAddr 1 rd2) wL0 <|
  rO (oLoad1 lo0) wL0 <|
  rO (oI ibEql lo0 (rdC (.int 3 (.ofNat 3)))) wL0 <|
  rO (oMove lo0) wL0 <|
  rG lo0 true wL0 (rO (oFieldAddr 3 rd2) wL0) <|
  rG lo1 true wL0 (rO (oLoad1 lo0) wL0) <|
  rG lo2 true wL0 (rO (oLoad1 rd1) wL0) <|
  rG lo3 true wL0 (rO (oI ibEql lo1 lo0) wL0) <|
  rO (oPick lo4 lo0 (rdC (.bool false))) wL0 <|
  rO (oMove lo0) w3 <|
  rSkip) rRet))
def d111 : DF := .mk [w0, w1] (resT rd3 resNil) c111
def c112 : Run :=
  (rSeq (rO (oBox rd0) w2 <|
  rO (oMove (rdC (.bool false))) w3 <|
  rSkip) (rSeq (rO (oLoadN 4 rd2) wL0 <|
  rO (oFieldAddr 0 rd2) wL0 <|
  rO (oLoad1 lo0) wL0 <|
  rO (oLoad1 rd1) wL0 <|
  rO (oLoad1 rd1) wL0 <|
  rO (oBuild [(.int 3 (.ofNat 0)), (.int 3 (.ofNat 0)), (.int 3 (.ofNat 0)), (.int 3 (.ofNat 0))] [(0, 1, lo2), (1, 1, (rdC (.int 3 (.ofNat 6)))), (2, 1, lo1), (3, 1, lo0)]) wL0 <|
  rO (oAg 34953 true lo5 lo0) wL0 <|
  rO (oMove lo0) w3 <|
  rSkip) rRet))
def d112 : DF := .mk [w0, w1] (resT rd3 resNil) c112
def c113 : Run :=
  (rSeq (rO (oMove (rdC (.int 3 (.ofNat 0)))) w4 <|
  rSkip) (rSeq (rSeq (rO (oMove rd0) wL0 <|
  rO (oLenV lo0) w7 <|
  rO (oMove (rdC (.int 3 (.ofNat 0)))) w8 <|
  rSkip) (rBlock 0 (rLoop (rSeq (rO (oI ibLss rd8 rd7) w9 <|
  rSkip) (rSeq (rCond rd9 rSkip (rExit 0)) (rSeq (rBlock 1 (rSeq (rO (oMove rd8) wL0 <|
  rO (oMove lo0) w5 <|
  rSkip) (rSeq (rO (oMove rd1) wL0 <|
  rO (oMove rd0) wL0 <|
  rO (oMove rd5) wL0 <|
  rO (oIndexAddrV 8 lo1 lo0) wL0 <|
  rO (oLoadN 8 lo0) wL0 <|
  rCallV lo4 [lo0] w16 <|
  rSkip) (rCond rd16 (rSeq (rO (oMove rd5) wL0 <|
  rO (oMove lo0) w4 <|
  rSkip) rRet) rSkip)))) (rO (oI ibAdd rd8 (rdC (.int 3 (.ofNat 1)))) wL0 <|
  rO (oMove lo0) w8 <|
  rSkip))))))) (rSeq (rO (oMove (rdC (.int 3 (.negSucc 0)))) w4 <|
  rSkip) rRet)))
def d113 : DF := .mk [w0, w1] (resT rd4 resNil) c113
def c114 : Run :=
  (rSeq (rO (oBox rd0) w3 <|
  rO (oMove (rdC (.bool false))) w4 <|
  rSkip) (rSeq (rO (oLoad1 rd1) wL0 <|
  rO (oFieldAddr 0 rd3) wL0 <|
  rO (oLoad1 lo0) wL0 <|
  rO (oI ibAdd lo2 lo0) wL0 <|
  rO (oStore1 rd1 lo0) wN <|
  rSkip) (rSeq (rO (oLoad1 rd1) wL0 <|
  rO (oLoad1 rd2) wL0 <|
  rO (oI ibGtr lo1 lo0) wL0 <|
  rO (oMove lo0) w4 <|
  rSkip) rRet)))
def d114 : DF := .mk [w0, w1, w2] (resT rd4 resNil) c114
def c115 : Run :=
  (rSeq (rO (oMove rd0) wL0 <|
  rO (oLoad1 rd2) wL0 <|
  rO (oI ibGtr lo1 lo0) w8 <|
  rSkip) (rCond rd8 (rO (oMove rd0) wL0 <|
  rO (oMove rd1) wL0 <|
  rO (oStore1 rd2 lo1) wN <|
  rO (oStore1 rd3 lo0) wN <|
  rSkip) rSkip))
def d115 : DF := .mk [w0, w1, w2, w3] resNil c115
def c116 : Run :=
  (rSeq (rO (oBox rd0) w1 <|
  rO (oMove (rdC (.oth 6 0 [] []))) w2 <|
  rSkip) (rSeq (rO (oMkFn 194 [] [rd1]) wL0 <|
  rO (oMove lo0) w2 <|
  rSkip) rRet))
def d116 : DF := .mk [w0] (resT rd2 resNil) c116
def c125 : Run :=
  (rSeq (rO (oBox rd0) w1 <|
  rO (oAlloc (mkCells [(.oth 1 0 [] []), (.oth 1 0 [] []), (.oth 1 0 [] []), (.int 3 (.ofNat 0)), (.int 3 (.ofNat 0)), (.int 3 (.ofNat 0)), (.bool false), (.bool false), (.int 3 (.ofNat 0)), (.int 3 (.ofNat 0)), (.oth 1 0 [] []), (.bool false), (.int 3 (.ofNat 0)), (.oth 1 0 [] [])])) w2 <|
  rO (oMove (rdC (.int 3 (.ofNat 0)))) w3 <|
  rSkip) (rSeq (rSeq (rO (oLoadN 7 rd1) wL0 <|
  rCall 68 [lo0] wL0 <|
  rO (oMove lo0) w4 <|
  rSkip) (rSeq (rO (oMove rd4) wL0 <|
  rO (oI ibNeq lo0 (rdC (.int 3 (.ofNat 0)))) w11 <|
  rSkip) (rCond rd11 (rSeq (rO (oBuild [(.oth 1 0 [] []), (.oth 1 0 [] []), (.oth 1 0 [] []), (.int 3 (.ofNat 0)), (.int 3 (.ofNat 0)), (.int 3 (.ofNat 0)), (.bool false), (.bool false), (.int 3 (.ofNat 0)), (.int 3 (.ofNat 0)), (.oth 1 0 [] []), (.bool false), (.int 3 (.ofNat 0)), (.oth 1 0 [] [])] []) wL0 <|
  rO (oMove rd4) wL0 <|
  rO (oStoreN 14 rd2 lo1) wN <|
  rO (oMove lo0) w3 <|
  rSkip) rRet) rSkip))) (rSeq (rSeq (rO (oFieldAddr 1 rd1) wL0 <|
  rO (oFieldAddr 4 lo0) wL0 <|
  rO (oLoad1 lo0) wL0 <|
  rO (oI ibNeq lo0 (rdC (.int 3 (.ofNat 8)))) w17 <|
  rSkip) (rCond rd17 (rSeq (rO (oBuild [(.oth 1 0 [] []), (.oth 1 0 [] []), (.oth 1 0 [] []), (.int 3 (.ofNat 0)), (.int 3 (.ofNat 0)), (.int 3 (.ofNat 0)), (.bool false), (.bool false), (.int 3 (.ofNat 0)), (.int 3 (.ofNat 0)), (.oth 1 0 [] []), (.bool false), (.int 3 (.ofNat 0)), (.oth 1 0 [] [])] []) wL0 <|
  rO (oStoreN 14 rd2 lo0) wN <|
  rO (oMove (rdC (.int 3 (.ofNat 6)))) w3 <|
  rSkip) rRet) rSkip)) (rSeq (rO (oAlloc (mkCells [(.oth 1 0 [] []), (.oth 1 0 [] []), (.oth 1 0 [] []), (.int 3 (.ofNat 0)), (.int 3 (.ofNat 0)), (.int 3 (.ofNat 0)), (.bool false), (.bool false), (.int 3 (.ofNat 0)), (.int 3 (.ofNat 0)), (.oth 1 0 [] []), (.bool false), (.int 3 (.ofNat 0)), (.oth 1 0 [] [])])) w5 <|
  rSkip) (rSeq (rSeq (rO (oLoadN 7 rd1) wL0 <|
  rCall 116 [lo0] w20 <|
  rSkip) (rBlock 0 (rRange rd20 3))) (rSeq (rO (oLoadN 14 rd5) wL0 <|
  rO (oStoreN 14 rd2 lo0) wN <|
  rO (oMove (rdC (.int 3 (.ofNat 0)))) w3 <|
  rSkip) rRet))))))
def d125 : DF := .mk [w0] (resN 14 rd2 (resT rd3 resNil)) c125
def c126 : Run :=
  (rSeq (rO (oBox rd0) w1 <|
  rO (oMove (rdC (.oth 1 0 [] []))) w2 <|
  rSkip) (rSeq (rO (oLoadN 14 rd1) wL0 <|
  rCall 127 [lo0] wL0 <|
  rO (oField1 0 lo0) wL0 <|
  rO (oMove lo0) w3 <|
  rSkip) (rSeq (rSeq (rO (oLoadN 14 rd1) wL0 <|
  rCall 128 [lo0] wL0 <|
  rO (oMove lo0) wL0 <|
  rO (oExtract 0 lo0) wL0 <|
  rO (oExtract 1 lo1) wL0 <|
  rO (oMove lo1) w4 <|
  rO (oMove lo0) w5 <|
  rSkip) (rSeq (rO (oMove rd5) w22 <|
  rSkip) (rCond rd22 (rSeq (rO (oMove rd3) wL0 <|
  rO (oBuildSlice 1 [(.int 3 (.ofNat 0))] [(0, 1, lo0)]) wL0 <|
  rO (oMove lo0) w6 <|
  rSkip) (rSeq (rBlock 0 (rLoop (rSeq (rSeq (rO (oMove rd4) wL0 <|
  rO (oMove rd3) wL0 <|
  rO (oI ibNeq lo1 lo0) w27 <|
  rSkip) (rCond rd27 rSkip (rExit 0))) (rSeq (rBlock 1 (rO (oMove rd6) wL0 <|
  rO (oMove rd4) wL0 <|
  rO (oBuildSlice 1 [(.int 3 (.ofNat 0))] [(0, 1, lo0)]) wL0 <|
  rO (oAppend 1 lo2 lo0) wL0 <|
  rO (oMove lo0) w6 <|
  rSkip)) (rO (oLoadN 14 rd1) wL0 <|
  rO (oMove rd4) wL0 <|
  rCall 131 [lo1, lo0] wL0 <|
  rO (oMove lo0) w4 <|
  rSkip))))) (rSeq (rO (oMove rd6) wL0 <|
  rO (oMove lo0) w2 <|
  rSkip) rRet))) rSkip))) (rSeq (rO (oLoadN 14 rd1) wL0 <|
  rCall 132 [lo0] wL0 <|
  rO (oMove lo0) w7 <|
  rSkip) (rSeq (rO (oMove rd3) wL0 <|
  rO (oMove rd7) wL0 <|
  rO (oBuildSlice 2 [(.int 3 (.ofNat 0)), (.int 3 (.ofNat 0))] [(0, 1, lo1), (1, 1, lo0)]) wL0 <|
  rO (oBuildSlice 1 [(.oth 1 0 [] [])] [(0, 1, lo0)]) wL0 <|
  rO (oMove lo0) w8 <|
  rSkip) (rSeq (rO (oMkMap 8) wL0 <|
  rO (oMove rd7) wL0 <|
  rO (oMapUpd 8 lo1 lo0 (rdC (.bool true))) wN <|
  rO (oMove lo1) wL0 <|
  rO (oMove lo0) w9 <|
  rSkip) (rSeq (rBlock 2 (rLoop (rSeq (rSeq (rO (oMove rd8) wL0 <|
  rO (oLenV lo0) wL0 <|
  rO (oI ibGtr lo0 (rdC (.int 3 (.ofNat 0)))) w47 <|
  rSkip) (rCond rd47 rSkip (rExit 2))) (rBlock 3 (rSeq (rO (oMove rd8) wL0 <|
  rO (oIndexAddrV 1 lo0 (rdC (.int 3 (.ofNat 0)))) wL0 <|
  rO (oLoad1 lo0) wL0 <|
  rO (oMove lo0) w10 <|
  rSkip) (rSeq (rO (oMove rd8) wL0 <|
  rO (oSliceV 1 lo0 (some (rdC (.int 3 (.ofNat 1)))) none) wL0 <|
  rO (oMove lo0) w8 <|
  rSkip) (rSeq (rO (oMove rd10) wL0 <|
  rO (oMove rd10) wL0 <|
  rO (oLenV lo0) wL0 <|
  rO (oI ibSub lo0 (rdC (.int 3 (.ofNat 1)))) wL0 <|
  rO (oIndexAddrV 1 lo3 lo0) wL0 <|
  rO (oLoad1 lo0) wL0 <|
  rO (oMove lo0) w11 <|
  rSkip) (rSeq (rSeq (rO (oFieldAddr 0 rd1) wL0 <|
  rO (oFieldAddr 1 lo0) wL0 <|
  rO (oLoad1 lo0) wL0 <|
  rO (oMove rd11) wL0 <|
  rO (oIndexAddrV 5 lo1 lo0) wL0 <|
  rO (oFieldAddr 3 lo0) wL0 <|
  rO (oLoad1 lo0) wL0 <|
  rO (oNot lo0) w66 <|
  rSkip) (rCond rd66 (rSeq (rO (oMove rd10) wL0 <|
  rO (oMove lo0) w2 <|
  rSkip) rRet) rSkip)) (rSeq (rO (oLoadN 14 rd1) wL0 <|
  rO (oMove rd11) wL0 <|
  rCall 134 [lo1, lo0] w70 <|
  rO (oLenV rd70) w71 <|
  rO (oMove (rdC (.int 3 (.ofNat 0)))) w72 <|
  rSkip) (rBlock 4 (rLoop (rSeq (rO (oI ibLss rd72 rd71) w73 <|
  rSkip) (rSeq (rCond rd73 rSkip (rExit 4)) (rSeq (rBlock 5 (rSeq (rO (oIndexAddrV 1 rd70 rd72) wL0 <|
  rO (oLoad1 lo0) wL0 <|
  rO (oMove lo0) w13 <|
  rSkip) (rSeq (rO (oMove rd9) wL0 <|
  rO (oMove rd13) wL0 <|
  rO (oLookup 8 (.bool false) lo1 lo0) wL0 <|
  rO (oNot lo0) w79 <|
  rSkip) (rCond rd79 (rSeq (rO (oMove rd9) wL0 <|
  rO (oMove rd13) wL0 <|
  rO (oMapUpd 8 lo1 lo0 (rdC (.bool true))) wN <|
  rSkip) (rO (oMove rd8) wL0 <|
  rO (oMove rd10) wL0 <|
  rO (oMove rd10) wL0 <|
  rO (oLenV lo0) wL0 <|
  rO (oMove rd10) wL0 <|
  rO (oLenV lo0) wL0 <|
  rO (oSlice3 1 lo4 none lo2 lo0) wL0 <|
  rO (oMove rd13) wL0 <|
  rO (oBuildSlice 1 [(.int 3 (.ofNat 0))] [(0, 1, lo0)]) wL0 <|
  rO (oAppend 1 lo2 lo0) wL0 <|
  rO (oBuildSlice 1 [(.oth 1 0 [] [])] [(0, 1, lo0)]) wL0 <|
  rO (oAppend 1 lo10 lo0) wL0 <|
  rO (oMove lo0) w8 <|
  rSkip)) rSkip)))) (rO (oI ibAdd rd72 (rdC (.int 3 (.ofNat 1)))) wL0 <|
  rO (oMove lo0) w72 <|
  rSkip))))))))))))))) (rSeq (rO (oMove (rdC (.oth 1 0 [] []))) w2 <|
  rSkip) rRet))))))))
def d126 : DF := .mk [w0] (resT rd2 resNil) c126
def c127 : Run :=
  (rSeq (rO (oBox rd0) w1 <|
  rO (oAlloc (mkCells [(.int 3 (.ofNat 0)), (.int 3 (.ofNat 0)), (.oth 1 0 [] [])])) w2 <|
  rSkip) (rSeq (rO (oFieldAddr 0 rd1) wL0 <|
  rO (oFieldAddr 2 lo0) wL0 <|
  rO (oLoad1 lo0) wL0 <|
  rO (oFieldAddr 0 rd1) wL0 <|
  rO (oFieldAddr 2 lo0) wL0 <|
  rO (oLoad1 lo0) wL0 <|
  rO (oLenV lo0) wL0 <|
  rO (oI ibSub lo0 (rdC (.int 3 (.ofNat 1)))) wL0 <|
  rO (oIndexAddrV 3 lo5 lo0) wL0 <|
  rO (oLoadN 3 lo0) wL0 <|
  rO (oStoreN 3 rd2 lo0) wN <|
  rSkip) rRet))
def d127 : DF := .mk [w0] (resN 3 rd2 resNil) c127
def c128 : Run :=
  (rSeq (rO (oBox rd0) w1 <|
  rO (oMove (rdC (.int 3 (.ofNat 0)))) w2 <|
  rO (oMove (rdC (.bool false))) w3 <|
  rSkip) (rSeq (rO (oLoadN 14 rd1) wL0 <|
  rO (oLoadN 14 rd1) wL0 <|
  rO (oAlloc (mkCells [(.int 3 (.ofNat 0)), (.int 3 (.ofNat 0)), (.oth 1 0 [] [])])) w4 <|
  rO (oAlloc (mkCells [(.str 0 0), (.int 3 (.ofNat 0)), (.oth 1 0 [] []), (.int 3 (.ofNat 0))])) w5 <|
  rCall 127 [lo1] wL0 <|
  rChkA (fun _ => [(.str 0 0), (.int 3 (.ofNat 0)), (.oth 1 0 [] []), (.int 3 (.ofNat 0))]) rd5 <|
  rChkA (fun _ => [(.int 3 (.ofNat 0)), (.int 3 (.ofNat 0)), (.oth 1 0 [] [])]) rd4 <|
  rChk (oLoadN 14 rd1) lo1 <|
  rCall 198 [lo1] wL0 <|
  rChkA (fun _ => [(.str 0 0), (.int 3 (.ofNat 0)), (.oth 1 0 [] []), (.int 3 (.ofNat 0))]) rd5 <|
  rChkA (fun _ => [(.int 3 (.ofNat 0)), (.int 3 (.ofNat 0)), (.oth 1 0 [] [])]) rd4 <|
  rO (oStoreN 3 rd4 lo1) wN <|
  rO (oStoreN 4 rd5 lo0) wN <|
  rSkip) (rSeq (rSeq (rO (oFieldAddr 1 rd4) wL0 <|
  rO (oLoad1 lo0) wL0 <|
  rO (oFieldAddr 2 rd5) wL0 <|
  rO (oLoad1 lo0) wL0 <|
  rO (oLenV lo0) wL0 <|
  rO (oI ibLss lo3 lo0) w15 <|
  rSkip) (rCond rd15 (rSeq (rO (oMove (rdC (.int 3 (.negSucc 0)))) w2 <|
  rO (oMove (rdC (.bool false))) w3 <|
  rSkip) rRet) rSkip)) (rSeq (rO (oFieldAddr 2 rd4) wL0 <|
  rO (oLoad1 lo0) wL0 <|
  rO (oFieldAddr 3 rd5) wL0 <|
  rO (oLoad1 lo0) wL0 <|
  rO (oIndexAddrV 1 lo2 lo0) wL0 <|
  rO (oLoad1 lo0) wL0 <|
  rCall 199 [lo0] wL0 <|
  rO (oMove lo0) w2 <|
  rO (oMove (rdC (.bool true))) w3 <|
  rSkip) rRet))))
def d128 : DF := .mk [w0] (resT rd2 (resT rd3 resNil)) c128
def c129 : Run :=
  (rSeq (rO (oBox rd0) w2 <|
  rO (oMove (rdC (.bool false))) w4 <|
  rSkip) (rSeq (rO (oMove rd1) wL0 <|
  rO (oI ibGeq lo0 (rdC (.int 3 (.ofNat 0)))) wL0 <|
  rO (oMove lo0) wL0 <|
  rG lo0 true wL0 (rO (oMove rd1) wL0) <|
  rG lo1 true wL0 (rO (oFieldAddr 0 rd2) wL0) <|
  rG lo2 true wL0 (rO (oFieldAddr 1 lo0) wL0) <|
  rG lo3 true wL0 (rO (oLoad1 lo0) wL0) <|
  rG lo4 true wL0 (rO (oLenV lo0) wL0) <|
  rG lo5 true wL0 (rO (oI ibLss lo4 lo0) wL0) <|
  rO (oPick lo6 lo0 (rdC (.bool false))) wL0 <|
  rO (oMove lo0) wL0 <|
  rG lo0 true wL0 (rO (oFieldAddr 0 rd2) wL0) <|
  rG lo1 true wL0 (rO (oFieldAddr 1 lo0) wL0) <|
  rG lo2 true wL0 (rO (oLoad1 lo0) wL0) <|
  rG lo3 true wL0 (rO (oMove rd1) wL0) <|
  rG lo4 true wL0 (rO (oIndexAddrV 5 lo1 lo0) wL0) <|
  rG lo5 true wL0 (rO (oFieldAddr 3 lo0) wL0) <|
  rG lo6 true wL0 (rO (oLoad1 lo0) wL0) <|
  rO (oPick lo7 lo0 (rdC (.bool false))) wL0 <|
  rO (oMove lo0) w4 <|
  rSkip) rRet))
def d129 : DF := .mk [w0, w1] (resT rd4 resNil) c129
def c130 : Run :=
  (rSeq (rO (oBox rd0) w1 <|
  rO (oMove (rdC (.bool false))) w2 <|
  rSkip) (rSeq (rO (oLoad1 rd1) wL0 <|
  rO (oMkFn 201 [] [rd1]) wL0 <|
  rCall 200 [lo1, lo0] wL0 <|
  rO (oNot lo0) wL0 <|
  rO (oMove lo0) w2 <|
  rSkip) rRet))
def d130 : DF := .mk [w0] (resT rd2 resNil) c130
def c131 : Run :=
  (rSeq (rO (oBox rd0) w2 <|
  rO (oMove (rdC (.int 3 (.ofNat 0)))) w4 <|
  rSkip) (rSeq (rSeq (rO (oLoadN 14 rd2) wL0 <|
  rCall 128 [lo0] wL0 <|
  rO (oMove lo0) wL0 <|
  rO (oExtract 0 lo0) wL0 <|
  rO (oExtract 1 lo1) wL0 <|
  rO (oMove lo1) w5 <|
  rO (oMove lo0) w6 <|
  rSkip) (rSeq (rO (oMove rd6) wL0 <|
  rO (oMove lo0) wL0 <|
  rG lo0 true wL0 (rO (oMove rd1) wL0) <|
  rG lo1 true wL0 (rO (oLoadN 14 rd2) wL0) <|
  rG lo2 true wL0 (rCall 127 [lo0] wL0) <|
  rG lo3 true wL0 (rO (oField1 0 lo0) wL0) <|
  rG lo4 true wL0 (rO (oI ibEql lo3 lo0) wL0) <|
  rO (oPick lo5 lo0 (rdC (.bool false))) w19 <|
  rSkip) (rCond rd19 (rSeq (rO (oMove rd5) wL0 <|
  rO (oMove lo0) w4 <|
  rSkip) rRet) rSkip))) (rSeq (rSeq (rO (oMove rd1) wL0 <|
  rO (oI ibLss lo0 (rdC (.int 3 (.ofNat 0)))) wL0 <|
  rO (oMove lo0) wL0 <|
  rG lo0 false wL0 (rO (oMove rd1) wL0) <|
  rG lo1 false wL0 (rO (oFieldAddr 0 rd2) wL0) <|
  rG lo2 false wL0 (rO (oFieldAddr 1 lo0) wL0) <|
  rG lo3 false wL0 (rO (oLoad1 lo0) wL0) <|
  rG lo4 false wL0 (rO (oLenV lo0) wL0) <|
  rG lo5 false wL0 (rO (oI ibGeq lo4 lo0) wL0) <|
  rO (oPick lo6 (rdC (.bool true)) lo0) wL0 <|
  rO (oMove lo0) wL0 <|
  rG lo0 false wL0 (rO (oFieldAddr 0 rd2) wL0) <|
  rG lo1 false wL0 (rO (oFieldAddr 1 lo0) wL0) <|
  rG lo2 false wL0 (rO (oLoad1 lo0) wL0) <|
  rG lo3 false wL0 (rO (oMove rd1) wL0) <|
  rG lo4 false wL0 (rO (oIndexAddrV 5 lo1 lo0) wL0) <|
  rG lo5 false wL0 (rO (oFieldAddr 3 lo0) wL0) <|
  rG lo6 false wL0 (rO (oLoad1 lo0) wL0) <|
  rG lo7 false wL0 (rO (oNot lo0) wL0) <|
  rO (oPick lo8 (rdC (.bool true)) lo0) w40 <|
  rSkip) (rCond rd40 (rSeq (rO (oMove (rdC (.int 3 (.negSucc 0)))) w4 <|
  rSkip) rRet) rSkip)) (rSeq (rO (oFieldAddr 0 rd2) wL0 <|
  rO (oFieldAddr 1 lo0) wL0 <|
  rO (oLoad1 lo0) wL0 <|
  rO (oMove rd1) wL0 <|
  rO (oIndexAddrV 5 lo1 lo0) wL0 <|
  rO (oFieldAddr 4 lo0) wL0 <|
  rO (oLoad1 lo0) wL0 <|
  rCall 199 [lo0] wL0 <|
  rO (oMove lo0) w4 <|
  rSkip) rRet))))
def d131 : DF := .mk [w0, w1] (resT rd4 resNil) c131
def c132 : Run :=
  (rSeq (rO (oBox rd0) w1 <|
  rO (oMove (rdC (.int 3 (.ofNat 0)))) w2 <|
  rSkip) (rSeq (rO (oLoadN 14 rd1) wL0 <|
  rCall 127 [lo0] wL0 <|
  rO (oAlloc (mkCells [(.int 3 (.ofNat 0)), (.int 3 (.ofNat 0)), (.oth 1 0 [] [])])) w3 <|
  rO (oStoreN 3 rd3 lo0) wN <|
  rSkip) (rSeq (rO (oLoadN 14 rd1) wL0 <|
  rO (oFieldAddr 1 rd3) wL0 <|
  rO (oLoad1 lo0) wL0 <|
  rO (oAlloc (mkCells [(.int 3 (.ofNat 0)), (.str 0 0), (.int 3 (.ofNat 0)), (.oth 1 0 [] [])])) w4 <|
  rCall 198 [lo2] wL0 <|
  rChkA (fun _ => [(.int 3 (.ofNat 0)), (.str 0 0), (.int 3 (.ofNat 0)), (.oth 1 0 [] [])]) rd4 <|
  rChk (oLoad1 lo2) lo1 <|
  rO (oField1 2 lo0) wL0 <|
  rO (oIndexAddrV 4 lo0 lo2) wL0 <|
  rO (oLoadN 4 lo0) wL0 <|
  rO (oStoreN 4 rd4 lo0) wN <|
  rSkip) (rSeq (rO (oFieldAddr 0 rd1) wL0 <|
  rO (oFieldAddr 1 lo0) wL0 <|
  rO (oLoad1 lo0) wL0 <|
  rO (oMkFn 202 [] [rd1, rd4, rd3]) wL0 <|
  rCall 174 [lo1, lo0] wL0 <|
  rO (oMove lo0) w2 <|
  rSkip) rRet))))
def d132 : DF := .mk [w0] (resT rd2 resNil) c132
def c133 : Run :=
  (rSeq (rO (oMove (rdC (.bool false))) w4 <|
  rSkip) (rSeq (rO (oMove rd0) wL0 <|
  rO (oMove rd1) wL0 <|
  rCall 204 [lo1, lo0] wL0 <|
  rO (oI ibGeq lo0 (rdC (.int 3 (.ofNat 0)))) wL0 <|
  rO (oMove lo0) w4 <|
  rSkip) rRet))
def d133 : DF := .mk [w0, w1] (resT rd4 resNil) c133
def c134 : Run :=
  (rSeq (rO (oBox rd0) w2 <|
  rO (oMove (rdC (.oth 1 0 [] []))) w4 <|
  rSkip) (rSeq (rSeq (rO (oMove rd1) wL0 <|
  rO (oI ibLss lo0 (rdC (.int 3 (.ofNat 0)))) wL0 <|
  rO (oMove lo0) wL0 <|
  rG lo0 false wL0 (rO (oMove rd1) wL0) <|
  rG lo1 false wL0 (rO (oFieldAddr 0 rd2) wL0) <|
  rG lo2 false wL0 (rO (oFieldAddr 1 lo0) wL0) <|
  rG lo3 false wL0 (rO (oLoad1 lo0) wL0) <|
  rG lo4 false wL0 (rO (oLenV lo0) wL0) <|
  rG lo5 false wL0 (rO (oI ibGeq lo4 lo0) wL0) <|
  rO (oPick lo6 (rdC (.bool true)) lo0) wL0 <|
  rO (oMove lo0) wL0 <|
  rG lo0 false wL0 (rO (oFieldAddr 0 rd2) wL0) <|
  rG lo1 false wL0 (rO (oFieldAddr 1 lo0) wL0) <|
  rG lo2 false wL0 (rO (oLoad1 lo0) wL0) <|
  rG lo3 false wL0 (rO (oMove rd1) wL0) <|
  rG lo4 false wL0 (rO (oIndexAddrV 5 lo1 lo0) wL0) <|
  rG lo5 false wL0 (rO (oFieldAddr 3 lo0) wL0) <|
  rG lo6 false wL0 (rO (oLoad1 lo0) wL0) <|
  rG lo7 false wL0 (rO (oNot lo0) wL0) <|
  rO (oPick lo8 (rdC (.bool true)) lo0) w29 <|
  rSkip) (rCond rd29 (rSeq (rO (oMove (rdC (.oth 1 0 [] []))) w4 <|
  rSkip) rRet) rSkip)) (rSeq (rO (oMove (rdC (.oth 1 0 [] []))) w5 <|
  rSkip) (rSeq (rO (oMkMap 8) wL0 <|
  rO (oMove lo0) w6 <|
  rSkip) (rSeq (rO (oFieldAddr 0 rd2) wL0 <|
  rO (oFieldAddr 1 lo0) wL0 <|
  rO (oLoad1 lo0) wL0 <|
  rO (oMove rd1) wL0 <|
  rO (oIndexAddrV 5 lo1 lo0) wL0 <|
  rO (oFieldAddr 4 lo0) wL0 <|
  rO (oLoad1 lo0) wL0 <|
  rO (oBuildSlice 1 [(.int 3 (.ofNat 0))] [(0, 1, lo0)]) wL0 <|
  rO (oMove lo0) w7 <|
  rSkip) (rSeq (rBlock 0 (rLoop (rSeq (rSeq (rO (oMove rd7) wL0 <|
  rO (oLenV lo0) wL0 <|
  rO (oI ibGtr lo0 (rdC (.int 3 (.ofNat 0)))) w41 <|
  rSkip) (rCond rd41 rSkip (rExit 0))) (rBlock 1 (rSeq (rO (oMove rd7) wL0 <|
  rO (oIndexAddrV 1 lo0 (rdC (.int 3 (.ofNat 0)))) wL0 <|
  rO (oLoad1 lo0) wL0 <|
  rO (oMove lo0) w8 <|
  rSkip) (rSeq (rO (oMove rd7) wL0 <|
  rO (oSliceV 1 lo0 (some (rdC (.int 3 (.ofNat 1)))) none) wL0 <|
  rO (oMove lo0) w7 <|
  rSkip) (rSeq (rO (oMove rd8) wL0 <|
  rCall 199 [lo0] wL0 <|
  rO (oMove lo0) w9 <|
  rSkip) (rSeq (rO (oMove rd9) wL0 <|
  rO (oI ibGeq lo0 (rdC (.int 3 (.ofNat 0)))) w50 <|
  rSkip) (rCond rd50 (rO (oMove rd5) wL0 <|
  rO (oMove rd9) wL0 <|
  rO (oBuildSlice 1 [(.int 3 (.ofNat 0))] [(0, 1, lo0)]) wL0 <|
  rO (oAppend 1 lo2 lo0) wL0 <|
  rO (oMove lo0) w5 <|
  rSkip) (rSeq (rO (oMove rd6) wL0 <|
  rO (oMove rd8) wL0 <|
  rO (oLookup 8 (.bool false) lo1 lo0) wL0 <|
  rO (oNot lo0) w58 <|
  rSkip) (rCond rd58 (rSeq (rO (oMove rd6) wL0 <|
  rO (oMove rd8) wL0 <|
  rO (oMapUpd 8 lo1 lo0 (rdC (.bool true))) wN <|
  rSkip) (rO (oMove rd7) wL0 <|
  rO (oFieldAddr 0 rd2) wL0 <|
  rO (oFieldAddr 0 lo0) wL0 <|
  rO (oLoad1 lo0) wL0 <|
  rO (oMove rd8) wL0 <|
  rO (oIndexAddrV 2 lo1 lo0) wL0 <|
  rO (oFieldAddr 1 lo0) wL0 <|
  rO (oLoad1 lo0) wL0 <|
  rO (oAppend 1 lo7 lo0) wL0 <|
  rO (oMove lo0) w7 <|
  rSkip)) rSkip))))))))))) (rSeq (rO (oMove rd5) wL0 <|
  rCall 205 [lo0] wL0 <|
  rSkip) (rSeq (rO (oMove rd5) wL0 <|
  rCall 206 [lo0] wL0 <|
  rO (oMove lo0) w4 <|
  rSkip) rRet))))))))
def d134 : DF := .mk [w0, w1] (resT rd4 resNil) c134
def c138 : Run :=
  (rSeq (rO (oMove (rdC (.int 3 (.ofNat 0)))) w4 <|
  rSkip) (rSeq (rO (oMove rd0) wL0 <|
  rCall 210 [lo0] wL0 <|
  rO (oMove lo0) w5 <|
  rSkip) (rSeq (rO (oMove rd1) wL0 <|
  rCall 210 [lo0] wL0 <|
  rO (oMove lo0) w6 <|
  rSkip) (rSeq (rSeq (rO (oMove rd5) w11 <|
  rSkip) (rCond rd11 (rSeq (rSeq (rO (oMove rd6) w12 <|
  rSkip) (rCond rd12 (rSeq (rO (oMove (rdC (.int 3 (.ofNat 0)))) w4 <|
  rSkip) rRet) rSkip)) (rSeq (rO (oMove (rdC (.int 3 (.negSucc 0)))) w4 <|
  rSkip) rRet)) rSkip)) (rSeq (rSeq (rO (oMove rd6) w13 <|
  rSkip) (rCond rd13 (rSeq (rO (oMove (rdC (.int 3 (.ofNat 1)))) w4 <|
  rSkip) rRet) rSkip)) (rSeq (rSeq (rO (oMove rd0) wL0 <|
  rO (oMove rd1) wL0 <|
  rO (oI ibLss lo1 lo0) w16 <|
  rSkip) (rCond rd16 (rSeq (rO (oMove (rdC (.int 3 (.negSucc 0)))) w4 <|
  rSkip) rRet) rSkip)) (rSeq (rSeq (rO (oMove rd0) wL0 <|
  rO (oMove rd1) wL0 <|
  rO (oI ibGtr lo1 lo0) w19 <|
  rSkip) (rCond rd19 (rSeq (rO (oMove (rdC (.int 3 (.ofNat 1)))) w4 <|
  rSkip) rRet) rSkip)) (rSeq (rO (oMove (rdC (.int 3 (.ofNat 0)))) w4 <|
  rSkip) rRet))))))))
def d138 : DF := .mk [w0, w1] (resT rd4 resNil) c138
def c140 : Run :=
  (rSeq (rO (oBox rd0) w3 <|
  rO (oAlloc (mkCells [(.oth 1 0 [] []), (.oth 1 0 [] []), (.oth 1 0 [] []), (.int 3 (.ofNat 0)), (.int 3 (.ofNat 0))])) w6 <|
  rO (oMove (rdC (.int 3 (.ofNat 0)))) w7 <|
  rSkip) (rSeq (rO (oLoadN 1 rd3) wL0 <|
  rO (oMove rd1) wL0 <|
  rCall 146 [lo1, lo0] wL0 <|
  rO (oMove lo0) wL0 <|
  rO (oExtract 0 lo0) wL0 <|
  rO (oExtract 1 lo1) wL0 <|
  rO (oMove lo1) w8 <|
  rO (oMove lo0) w9 <|
  rSkip) (rSeq (rBlock 0 (rSeq (rO (oMove rd9) wL0 <|
  rO (oI ibNeq lo0 (rdC (.int 3 (.ofNat 0)))) wL0 <|
  rO (oMove lo0) w23 <|
  rSkip) (rCond rd23 (rSeq (rO (oBuild [(.oth 1 0 [] []), (.oth 1 0 [] []), (.oth 1 0 [] []), (.int 3 (.ofNat 0)), (.int 3 (.ofNat 0))] []) wL0 <|
  rO (oMove rd9) wL0 <|
  rO (oStoreN 5 rd6 lo1) wN <|
  rO (oMove lo0) w7 <|
  rSkip) rRet) (rSeq (rO (oMove rd2) wL0 <|
  rO (oLenV lo0) wL0 <|
  rO (oFieldAddr 0 rd3) wL0 <|
  rO (oLoad1 lo0) wL0 <|
  rO (oMove rd8) wL0 <|
  rO (oIndexAddrV 3 lo1 lo0) wL0 <|
  rO (oFieldAddr 1 lo0) wL0 <|
  rO (oLoad1 lo0) wL0 <|
  rO (oI ibNeq lo6 lo0) wL0 <|
  rO (oMove lo0) w28 <|
  rSkip) (rCond rd28 (rSeq (rO (oBuild [(.oth 1 0 [] []), (.oth 1 0 [] []), (.oth 1 0 [] []), (.int 3 (.ofNat 0)), (.int 3 (.ofNat 0))] []) wL0 <|
  rO (oStoreN 5 rd6 lo0) wN <|
  rO (oMove (rdC (.int 3 (.ofNat 7)))) w7 <|
  rSkip) rRet) rSkip))))) (rSeq (rO (oMove (rdC (.oth 1 0 [] []))) w10 <|
  rSkip) (rSeq (rSeq (rO (oMove rd2) w39 <|
  rO (oLenV rd39) w40 <|
  rO (oMove (rdC (.int 3 (.ofNat 0)))) w41 <|
  rSkip) (rBlock 1 (rLoop (rSeq (rO (oI ibLss rd41 rd40) w42 <|
  rSkip) (rSeq (rCond rd42 rSkip (rExit 1)) (rSeq (rBlock 2 (rSeq (rO (oIndexAddrV 2 rd39 rd41) wL0 <|
  rO (oLoadN 2 lo0) wL0 <|
  rO (oAlloc (mkCells [(.oth 1 0 [] []), (.int 3 (.ofNat 0))])) w12 <|
  rO (oStoreN 2 rd12 lo0) wN <|
  rSkip) (rSeq (rO (oLoadN 2 rd12) wL0 <|
  rCall 215 [lo0] wL0 <|
  rO (oMove lo0) wL0 <|
  rO (oExtract 0 lo0) wL0 <|
  rO (oExtract 1 lo1) wL0 <|
  rO (oAlloc (mkCells [(.oth 1 0 [] []), (.int 3 (.ofNat 0))])) w13 <|
  rO (oStoreN 2 rd13 lo1) wN <|
  rO (oMove lo0) w14 <|
  rSkip) (rSeq (rSeq (rO (oMove rd14) wL0 <|
  rO (oI ibNeq lo0 (rdC (.int 3 (.ofNat 0)))) w51 <|
  rSkip) (rCond rd51 (rSeq (rO (oBuild [(.oth 1 0 [] []), (.oth 1 0 [] []), (.oth 1 0 [] []), (.int 3 (.ofNat 0)), (.int 3 (.ofNat 0))] []) wL0 <|
  rO (oMove rd14) wL0 <|
  rO (oStoreN 5 rd6 lo1) wN <|
  rO (oMove lo0) w7 <|
  rSkip) rRet) rSkip)) (rO (oMove rd10) wL0 <|
  rO (oLoadN 2 rd13) wL0 <|
  rO (oBuildSlice 1 [(.oth 1 0 [] []), (.int 3 (.ofNat 0))] [(0, 2, lo0)]) wL0 <|
  rO (oAppend 2 lo2 lo0) wL0 <|
  rO (oMove lo0) w10 <|
  rSkip))))) (rO (oI ibAdd rd41 (rdC (.int 3 (.ofNat 1)))) wL0 <|
  rO (oMove lo0) w41 <|
  rSkip))))))) (rSeq (rO (oLoadN 1 rd3) wL0 <|
  rO (oBuild [(.oth 1 0 [] []), (.oth 1 0 [] []), (.oth 1 0 [] []), (.int 3 (.ofNat 0)), (.int 3 (.ofNat 0)), (.oth 1 0 [] []), (.oth 6 0 [] [])] [(5, 1, lo0)]) wL0 <|
  rO (oBox lo0) wL0 <|
  rO (oMove lo0) w15 <|
  rSkip) (rSeq (rSeq (rO (oMove rd15) wL0 <|
  rO (oMove rd8) wL0 <|
  rO (oMove rd10) wL0 <|
  rCall 216 [lo2, lo1, lo0] wL0 <|
  rO (oMove lo0) w16 <|
  rSkip) (rSeq (rO (oMove rd16) wL0 <|
  rO (oI ibNeq lo0 (rdC (.int 3 (.ofNat 0)))) w67 <|
  rSkip) (rCond rd67 (rSeq (rO (oBuild [(.oth 1 0 [] []), (.oth 1 0 [] []), (.oth 1 0 [] []), (.int 3 (.ofNat 0)), (.int 3 (.ofNat 0))] []) wL0 <|
  rO (oMove rd16) wL0 <|
  rO (oStoreN 5 rd6 lo1) wN <|
  rO (oMove lo0) w7 <|
  rSkip) rRet) rSkip))) (rSeq (rO (oMove rd15) wL0 <|
  rO (oNilCheck lo0) wL0 <|
  rO (oFieldAddr 0 lo0) wL0 <|
  rO (oLoadN 5 lo0) wL0 <|
  rO (oStoreN 5 rd6 lo0) wN <|
  rO (oMove (rdC (.int 3 (.ofNat 0)))) w7 <|
  rSkip) rRet))))))))
def d140 : DF := .mk [w0, w1, w2] (resN 5 rd6 (resT rd7 resNil)) c140
def c141 : Run :=
  (rSeq (rO (oBox rd0) w1 <|
  rO (oAlloc (mkCells [(.oth 1 0 [] []), (.oth 1 0 [] []), (.oth 1 0 [] []), (.oth 1 0 [] []), (.int 3 (.ofNat 0)), (.int 3 (.ofNat 0)), (.oth 1 0 [] [])])) w2 <|
  rSkip) (rSeq (rO (oFieldAddr 0 rd1) wL0 <|
  rO (oFieldAddr 0 lo0) wL0 <|
  rO (oLoad1 lo0) wL0 <|
  rCall 217 [lo0] wL0 <|
  rO (oFieldAddr 0 rd1) wL0 <|
  rO (oFieldAddr 0 lo0) wL0 <|
  rO (oStore1 lo0 lo2) wN <|
  rSkip) (rSeq (rSeq (rO (oFieldAddr 0 rd1) wL0 <|
  rO (oFieldAddr 0 lo0) wL0 <|
  rO (oLoad1 lo0) wL0 <|
  rO (oLenV lo0) w18 <|
  rO (oMove (rdC (.int 3 (.ofNat 0)))) w19 <|
  rSkip) (rBlock 0 (rLoop (rSeq (rO (oI ibLss rd19 rd18) w20 <|
  rSkip) (rSeq (rCond rd20 rSkip (rExit 0)) (rSeq (rBlock 1 (rSeq (rO (oMove rd19) wL0 <|
  rO (oMove lo0) w3 <|
  rSkip) (rSeq (rO (oFieldAddr 0 rd1) wL0 <|
  rO (oFieldAddr 0 lo0) wL0 <|
  rO (oLoad1 lo0) wL0 <|
  rO (oMove rd3) wL0 <|
  rO (oIndexAddrV 3 lo1 lo0) wL0 <|
  rO (oMove lo0) w4 <|
  rSkip) (rSeq (rO (oMove rd4) wL0 <|
  rO (oMove rd4) wL0 <|
  rO (oNilCheck lo0) wL0 <|
  rO (oFieldAddr 2 lo0) wL0 <|
  rO (oLoad1 lo0) wL0 <|
  rCall 218 [lo0] wL0 <|
  rO (oNilCheck lo5) wL0 <|
  rO (oFieldAddr 2 lo0) wL0 <|
  rO (oStore1 lo0 lo2) wN <|
  rSkip) (rSeq (rO (oMove rd4) wL0 <|
  rO (oNilCheck lo0) wL0 <|
  rO (oFieldAddr 2 lo0) wL0 <|
  rO (oLoad1 lo0) wL0 <|
  rO (oLenV lo0) w39 <|
  rO (oMove (rdC (.int 3 (.ofNat 0)))) w40 <|
  rSkip) (rBlock 2 (rLoop (rSeq (rO (oI ibLss rd40 rd39) w41 <|
  rSkip) (rSeq (rCond rd41 rSkip (rExit 2)) (rSeq (rBlock 3 (rSeq (rO (oMove rd40) wL0 <|
  rO (oMove lo0) w5 <|
  rSkip) (rSeq (rO (oMove rd4) wL0 <|
  rO (oNilCheck lo0) wL0 <|
  rO (oFieldAddr 2 lo0) wL0 <|
  rO (oLoad1 lo0) wL0 <|
  rO (oMove rd5) wL0 <|
  rO (oIndexAddrV 4 lo1 lo0) wL0 <|
  rO (oMove lo0) w6 <|
  rSkip) (rSeq (rO (oMove rd6) wL0 <|
  rO (oMove rd6) wL0 <|
  rO (oNilCheck lo0) wL0 <|
  rO (oFieldAddr 2 lo0) wL0 <|
  rO (oLoad1 lo0) wL0 <|
  rCall 219 [lo0] wL0 <|
  rO (oNilCheck lo5) wL0 <|
  rO (oFieldAddr 2 lo0) wL0 <|
  rO (oStore1 lo0 lo2) wN <|
  rSkip) (rSeq (rO (oMove rd6) wL0 <|
  rO (oNilCheck lo0) wL0 <|
  rO (oFieldAddr 2 lo0) wL0 <|
  rO (oLoad1 lo0) wL0 <|
  rO (oLenV lo0) w61 <|
  rO (oMove (rdC (.int 3 (.ofNat 0)))) w62 <|
  rSkip) (rBlock 4 (rLoop (rSeq (rO (oI ibLss rd62 rd61) w63 <|
  rSkip) (rSeq (rCond rd63 rSkip (rExit 4)) (rSeq (rBlock 5 (rSeq (rO (oMove rd62) wL0 <|
  rO (oMove lo0) w7 <|
  rSkip) (rO (oMove rd6) wL0 <|
  rO (oNilCheck lo0) wL0 <|
  rO (oFieldAddr 2 lo0) wL0 <|
  rO (oLoad1 lo0) wL0 <|
  rO (oMove rd7) wL0 <|
  rO (oMove rd6) wL0 <|
  rO (oNilCheck lo0) wL0 <|
  rO (oFieldAddr 2 lo0) wL0 <|
  rO (oLoad1 lo0) wL0 <|
  rO (oMove rd7) wL0 <|
  rO (oIndexAddrV 4 lo1 lo0) wL0 <|
  rO (oFieldAddr 3 lo0) wL0 <|
  rO (oLoad1 lo0) wL0 <|
  rCall 40 [lo0] wL0 <|
  rChk (oLoad1 lo11) lo10 <|
  rO (oIndexAddrV 4 lo10 lo9) wL0 <|
  rO (oFieldAddr 3 lo0) wL0 <|
  rO (oStore1 lo0 lo2) wN <|
  rSkip))) (rO (oI ibAdd rd62 (rdC (.int 3 (.ofNat 1)))) wL0 <|
  rO (oMove lo0) w62 <|
  rSkip))))))))))) (rO (oI ibAdd rd40 (rdC (.int 3 (.ofNat 1)))) wL0 <|
  rO (oMove lo0) w40 <|
  rSkip))))))))))) (rO (oI ibAdd rd19 (rdC (.int 3 (.ofNat 1)))) wL0 <|
  rO (oMove lo0) w19 <|
  rSkip))))))) (rSeq (rO (oFieldAddr 1 rd1) wL0 <|
  rO (oLoadN 5 lo0) wL0 <|
  rO (oFieldAddr 6 rd1) wL0 <|
  rO (oLoad1 lo0) wL0 <|
  rCall 98 [lo2] wL0 <|
  rChk (oLoad1 lo2) lo1 <|
  rO (oFieldAddr 1 rd1) wL0 <|
  rCall 66 [lo2] wL0 <|
  rO (oStoreN 5 lo1 lo2) wN <|
  rO (oFieldAddr 6 rd1) wL0 <|
  rO (oStore1 lo0 lo1) wN <|
  rSkip) (rSeq (rSeq (rO (oFieldAddr 6 rd1) wL0 <|
  rO (oLoad1 lo0) wL0 <|
  rO (oLenV lo0) w94 <|
  rO (oMove (rdC (.int 3 (.ofNat 0)))) w95 <|
  rSkip) (rBlock 6 (rLoop (rSeq (rO (oI ibLss rd95 rd94) w96 <|
  rSkip) (rSeq (rCond rd96 rSkip (rExit 6)) (rSeq (rBlock 7 (rSeq (rO (oMove rd95) wL0 <|
  rO (oMove lo0) w8 <|
  rSkip) (rO (oFieldAddr 6 rd1) wL0 <|
  rO (oLoad1 lo0) wL0 <|
  rO (oMove rd8) wL0 <|
  rO (oFieldAddr 6 rd1) wL0 <|
  rO (oLoad1 lo0) wL0 <|
  rO (oMove rd8) wL0 <|
  rO (oIndexAddrV 8 lo1 lo0) wL0 <|
  rO (oFieldAddr 3 lo0) wL0 <|
  rO (oLoadN 3 lo0) wL0 <|
  rCall 99 [lo0] wL0 <|
  rChk (oLoad1 lo9) lo8 <|
  rO (oIndexAddrV 8 lo8 lo7) wL0 <|
  rO (oFieldAddr 3 lo0) wL0 <|
  rO (oStoreN 3 lo0 lo2) wN <|
  rSkip))) (rO (oI ibAdd rd95 (rdC (.int 3 (.ofNat 1)))) wL0 <|
  rO (oMove lo0) w95 <|
  rSkip))))))) (rSeq (rO (oLoadN 7 rd1) wL0 <|
  rO (oStoreN 7 rd2 lo0) wN <|
  rSkip) rRet))))))
def d141 : DF := .mk [w0] (resN 7 rd2 resNil) c141
def c144 : Run :=
  (rSeq (rO (oBox rd0) w2 <|
  rO (oAlloc (mkCells [(.oth 1 0 [] []), (.oth 1 0 [] []), (.oth 1 0 [] []), (.oth 1 0 [] []), (.int 3 (.ofNat 0)), (.int 3 (.ofNat 0)), (.oth 1 0 [] [])])) w4 <|
  rO (oMove (rdC (.int 3 (.ofNat 0)))) w5 <|
  rSkip) (rSeq (rSeq (rO (oLoadN 7 rd2) wL0 <|
  rCall 68 [lo0] wL0 <|
  rO (oMove lo0) w6 <|
  rSkip) (rSeq (rO (oMove rd6) wL0 <|
  rO (oI ibNeq lo0 (rdC (.int 3 (.ofNat 0)))) w11 <|
  rSkip) (rCond rd11 (rSeq (rO (oBuild [(.oth 1 0 [] []), (.oth 1 0 [] []), (.oth 1 0 [] []), (.oth 1 0 [] []), (.int 3 (.ofNat 0)), (.int 3 (.ofNat 0)), (.oth 1 0 [] [])] []) wL0 <|
  rO (oMove rd6) wL0 <|
  rO (oStoreN 7 rd4 lo1) wN <|
  rO (oMove lo0) w5 <|
  rSkip) rRet) rSkip))) (rSeq (rO (oMove rd1) wL0 <|
  rO (oLoadN 7 rd2) wL0 <|
  rCallV lo1 [lo0] wL0 <|
  rO (oMove lo0) wL0 <|
  rO (oExtract 0 lo0) wL0 <|
  rO (oExtract 1 lo1) wL0 <|
  rO (oStoreN 7 rd2 lo1) wN <|
  rO (oMove lo0) w7 <|
  rSkip) (rSeq (rSeq (rO (oMove rd7) wL0 <|
  rO (oI ibNeq lo0 (rdC (.int 3 (.ofNat 0)))) w21 <|
  rSkip) (rCond rd21 (rSeq (rO (oBuild [(.oth 1 0 [] []), (.oth 1 0 [] []), (.oth 1 0 [] []), (.oth 1 0 [] []), (.int 3 (.ofNat 0)), (.int 3 (.ofNat 0)), (.oth 1 0 [] [])] []) wL0 <|
  rO (oMove rd7) wL0 <|
  rO (oStoreN 7 rd4 lo1) wN <|
  rO (oMove lo0) w5 <|
  rSkip) rRet) rSkip)) (rSeq (rO (oLoadN 7 rd2) wL0 <|
  rCall 141 [lo0] wL0 <|
  rO (oStoreN 7 rd4 lo0) wN <|
  rO (oMove (rdC (.int 3 (.ofNat 0)))) w5 <|
  rSkip) rRet)))))
def d144 : DF := .mk [w0, w1] (resN 7 rd4 (resT rd5 resNil)) c144
def c145 : Run :=
  (rSeq (rO (oBox rd0) w2 <|
  rO (oAlloc (mkCells [(.oth 1 0 [] []), (.oth 1 0 [] []), (.oth 1 0 [] []), (.oth 1 0 [] []), (.int 3 (.ofNat 0)), (.int 3 (.ofNat 0)), (.oth 1 0 [] [])])) w3 <|
  rO (oMove (rdC (.int 3 (.ofNat 0)))) w4 <|
  rSkip) (rSeq (rSeq (rO (oFieldAddr 0 rd2) wL0 <|
  rO (oLoadN 1 lo0) wL0 <|
  rO (oLoad1 rd1) wL0 <|
  rCall 146 [lo1, lo0] wL0 <|
  rO (oMove lo0) wL0 <|
  rO (oExtract 0 lo0) wL0 <|
  rO (oExtract 1 lo1) wL0 <|
  rO (oMove lo1) wL0 <|
  rO (oMove lo1) w6 <|
  rSkip) (rSeq (rO (oMove rd6) wL0 <|
  rO (oI ibNeq lo0 (rdC (.int 3 (.ofNat 0)))) w17 <|
  rSkip) (rCond rd17 (rSeq (rO (oBuild [(.oth 1 0 [] []), (.oth 1 0 [] []), (.oth 1 0 [] []), (.oth 1 0 [] []), (.int 3 (.ofNat 0)), (.int 3 (.ofNat 0)), (.oth 1 0 [] [])] []) wL0 <|
  rO (oMove rd6) wL0 <|
  rO (oStoreN 7 rd3 lo1) wN <|
  rO (oMove lo0) w4 <|
  rSkip) rRet) rSkip))) (rSeq rSkip (rBlock 0 (rLoop (rBlock 1 (rSeq (rO (oLoadN 7 rd2) wL0 <|
  rCall 147 [lo0] wL0 <|
  rO (oMove lo0) wL0 <|
  rO (oExtract 0 lo0) wL0 <|
  rO (oExtract 1 lo1) wL0 <|
  rO (oAlloc (mkCells [(.oth 1 0 [] []), (.oth 1 0 [] []), (.oth 1 0 [] []), (.oth 1 0 [] []), (.int 3 (.ofNat 0)), (.int 3 (.ofNat 0)), (.oth 1 0 [] [])])) w7 <|
  rO (oStoreN 7 rd7 lo1) wN <|
  rO (oMove lo0) w8 <|
  rSkip) (rSeq (rSeq (rO (oMove rd8) wL0 <|
  rO (oI ibNeq lo0 (rdC (.int 3 (.ofNat 0)))) w26 <|
  rSkip) (rCond rd26 (rSeq (rO (oBuild [(.oth 1 0 [] []), (.oth 1 0 [] []), (.oth 1 0 [] []), (.oth 1 0 [] []), (.int 3 (.ofNat 0)), (.int 3 (.ofNat 0)), (.oth 1 0 [] [])] []) wL0 <|
  rO (oMove rd8) wL0 <|
  rO (oStoreN 7 rd3 lo1) wN <|
  rO (oMove lo0) w4 <|
  rSkip) rRet) rSkip)) (rSeq (rO (oLoadN 7 rd7) wL0 <|
  rO (oStoreN 7 rd2 lo0) wN <|
  rSkip) (rSeq (rSeq (rO (oFieldAddr 6 rd2) wL0 <|
  rO (oLoad1 lo0) wL0 <|
  rO (oFieldAddr 6 rd2) wL0 <|
  rO (oLoad1 lo0) wL0 <|
  rO (oLenV lo0) wL0 <|
  rO (oI ibSub lo0 (rdC (.int 3 (.ofNat 1)))) wL0 <|
  rO (oIndexAddrV 8 lo4 lo0) wL0 <|
  rO (oFieldAddr 1 lo0) wL0 <|
  rO (oLoad1 lo0) wL0 <|
  rO (oNot lo0) w39 <|
  rSkip) (rCond rd39 (rExit 1) rSkip)) (rSeq (rO (oFieldAddr 0 rd2) wL0 <|
  rO (oFieldAddr 0 lo0) wL0 <|
  rO (oLoad1 lo0) wL0 <|
  rO (oFieldAddr 1 rd2) wL0 <|
  rO (oFieldAddr 1 lo0) wL0 <|
  rO (oLoad1 lo0) wL0 <|
  rO (oFieldAddr 1 rd2) wL0 <|
  rO (oFieldAddr 1 lo0) wL0 <|
  rO (oLoad1 lo0) wL0 <|
  rO (oLenV lo0) wL0 <|
  rO (oI ibSub lo0 (rdC (.int 3 (.ofNat 1)))) wL0 <|
  rO (oIndexAddrV 5 lo5 lo0) wL0 <|
  rO (oFieldAddr 0 lo0) wL0 <|
  rO (oLoad1 lo0) wL0 <|
  rO (oIndexAddrV 3 lo11 lo0) wL0 <|
  rO (oFieldAddr 0 lo0) wL0 <|
  rO (oLoad1 lo0) wL0 <|
  rO (oLoad1 rd1) wL0 <|
  rO (oS sbEql lo1 lo0) w58 <|
  rSkip) (rCond rd58 (rSeq (rO (oLoadN 7 rd2) wL0 <|
  rO (oStoreN 7 rd3 lo0) wN <|
  rO (oMove (rdC (.int 3 (.ofNat 0)))) w4 <|
  rSkip) rRet) rSkip))))))))))))
def d145 : DF := .mk [w0, w1] (resN 7 rd3 (resT rd4 resNil)) c145
def c146 : Run :=
  (rSeq (rO (oBox rd0) w2 <|
  rO (oMove (rdC (.int 3 (.ofNat 0)))) w4 <|
  rO (oMove (rdC (.int 3 (.ofNat 0)))) w5 <|
  rSkip) (rSeq (rSeq (rO (oLoadN 1 rd2) wL0 <|
  rCall 181 [lo0] wL0 <|
  rO (oMove lo0) w6 <|
  rSkip) (rSeq (rO (oMove rd6) wL0 <|
  rO (oI ibNeq lo0 (rdC (.int 3 (.ofNat 0)))) w11 <|
  rSkip) (rCond rd11 (rSeq (rO (oMove rd6) wL0 <|
  rO (oMove (rdC (.int 3 (.ofNat 0)))) w4 <|
  rO (oMove lo0) w5 <|
  rSkip) rRet) rSkip))) (rSeq (rO (oLoadN 1 rd2) wL0 <|
  rCall 220 [lo0] wL0 <|
  rO (oMove rd1) wL0 <|
  rCallV lo1 [lo0] wL0 <|
  rO (oMove lo0) w7 <|
  rSkip) (rSeq (rSeq (rO (oMove rd7) wL0 <|
  rO (oI ibLss lo0 (rdC (.int 3 (.ofNat 0)))) w18 <|
  rSkip) (rCond rd18 (rSeq (rO (oMove (rdC (.int 3 (.ofNat 0)))) w4 <|
  rO (oMove (rdC (.int 3 (.ofNat 1)))) w5 <|
  rSkip) rRet) rSkip)) (rSeq (rO (oMove rd7) wL0 <|
  rO (oMove lo0) w4 <|
  rO (oMove (rdC (.int 3 (.ofNat 0)))) w5 <|
  rSkip) rRet)))))
def d146 : DF := .mk [w0, w1] (resT rd4 (resT rd5 resNil)) c146
def c147 : Run :=
  (rSeq (rO (oBox rd0) w1 <|
  rO (oAlloc (mkCells [(.oth 1 0 [] []), (.oth 1 0 [] []), (.oth 1 0 [] []), (.oth 1 0 [] []), (.int 3 (.ofNat 0)), (.int 3 (.ofNat 0)), (.oth 1 0 [] [])])) w2 <|
  rO (oMove (rdC (.int 3 (.ofNat 0)))) w3 <|
  rSkip) (rSeq (rSeq (rO (oFieldAddr 1 rd1) wL0 <|
  rO (oLoadN 5 lo0) wL0 <|
  rCall 69 [lo0] w9 <|
  rSkip) (rCond rd9 (rSeq (rO (oBuild [(.oth 1 0 [] []), (.oth 1 0 [] []), (.oth 1 0 [] []), (.oth 1 0 [] []), (.int 3 (.ofNat 0)), (.int 3 (.ofNat 0)), (.oth 1 0 [] [])] []) wL0 <|
  rO (oStoreN 7 rd2 lo0) wN <|
  rO (oMove (rdC (.int 3 (.ofNat 6)))) w3 <|
  rSkip) rRet) rSkip)) (rSeq (rSeq (rO (oFieldAddr 6 rd1) wL0 <|
  rO (oLoad1 lo0) wL0 <|
  rO (oLenV lo0) wL0 <|
  rO (oI ibEql lo0 (rdC (.int 3 (.ofNat 400)))) w14 <|
  rSkip) (rCond rd14 (rSeq (rO (oBuild [(.oth 1 0 [] []), (.oth 1 0 [] []), (.oth 1 0 [] []), (.oth 1 0 [] []), (.int 3 (.ofNat 0)), (.int 3 (.ofNat 0)), (.oth 1 0 [] [])] []) wL0 <|
  rO (oStoreN 7 rd2 lo0) wN <|
  rO (oMove (rdC (.int 3 (.ofNat 12)))) w3 <|
  rSkip) rRet) rSkip)) (rSeq (rO (oFieldAddr 0 rd1) wL0 <|
  rO (oLoadN 1 lo0) wL0 <|
  rO (oFieldAddr 1 rd1) wL0 <|
  rO (oLoadN 5 lo0) wL0 <|
  rCall 96 [lo2, lo0] wL0 <|
  rO (oMove lo0) wL0 <|
  rO (oExtract 0 lo0) wL0 <|
  rO (oExtract 1 lo1) wL0 <|
  rO (oExtract 2 lo2) wL0 <|
  rO (oAlloc (mkCells [(.oth 1 0 [] []), (.oth 1 0 [] []), (.oth 1 0 [] []), (.int 3 (.ofNat 0)), (.int 3 (.ofNat 0))])) w4 <|
  rO (oAlloc (mkCells [(.int 3 (.ofNat 0)), (.bool false), (.bool false), (.int 3 (.ofNat 0)), (.int 3 (.ofNat 0)), (.oth 1 0 [] []), (.bool false), (.int 3 (.ofNat 0))])) w5 <|
  rO (oStoreN 5 rd4 lo2) wN <|
  rO (oStoreN 8 rd5 lo1) wN <|
  rO (oMove lo0) w6 <|
  rSkip) (rSeq (rSeq (rO (oMove rd6) wL0 <|
  rO (oI ibNeq lo0 (rdC (.int 3 (.ofNat 0)))) w26 <|
  rSkip) (rCond rd26 (rSeq (rO (oBuild [(.oth 1 0 [] []), (.oth 1 0 [] []), (.oth 1 0 [] []), (.oth 1 0 [] []), (.int 3 (.ofNat 0)), (.int 3 (.ofNat 0)), (.oth 1 0 [] [])] []) wL0 <|
  rO (oMove rd6) wL0 <|
  rO (oStoreN 7 rd2 lo1) wN <|
  rO (oMove lo0) w3 <|
  rSkip) rRet) rSkip)) (rSeq (rO (oLoadN 5 rd4) wL0 <|
  rO (oFieldAddr 6 rd1) wL0 <|
  rO (oLoad1 lo0) wL0 <|
  rO (oLoadN 8 rd5) wL0 <|
  rO (oBuildSlice 1 [(.int 3 (.ofNat 0)), (.bool false), (.bool false), (.int 3 (.ofNat 0)), (.int 3 (.ofNat 0)), (.oth 1 0 [] []), (.bool false), (.int 3 (.ofNat 0))] [(0, 8, lo0)]) wL0 <|
  rO (oFieldAddr 1 rd1) wL0 <|
  rCall 221 [lo3] wL0 <|
  rChkA (fun e => fills [(0, 8, lo3)] e [(.int 3 (.ofNat 0)), (.bool false), (.bool false), (.int 3 (.ofNat 0)), (.int 3 (.ofNat 0)), (.oth 1 0 [] []), (.bool false), (.int 3 (.ofNat 0))]) lo2 <|
  rChk (oLoadN 8 rd5) lo3 <|
  rChk (oLoadN 5 rd4) lo6 <|
  rO (oAppend 8 lo0 lo2) wL0 <|
  rChk (oLoadN 5 rd4) lo7 <|
  rO (oStoreN 5 lo2 lo7) wN <|
  rO (oFieldAddr 6 rd1) wL0 <|
  rO (oStore1 lo0 lo1) wN <|
  rSkip) (rSeq (rO (oLoadN 7 rd1) wL0 <|
  rO (oStoreN 7 rd2 lo0) wN <|
  rO (oMove (rdC (.int 3 (.ofNat 0)))) w3 <|
  rSkip) rRet)))))))
def d147 : DF := .mk [w0] (resN 7 rd2 (resT rd3 resNil)) c147
def c148 : Run :=
  (rSeq (rO (oAlloc (mkCells [(.str 0 0), (.int 3 (.ofNat 0)), (.oth 1 0 [] [])])) w6 <|
  rSkip) (rSeq (rO (oMove rd0) wL0 <|
  rO (oMove rd1) wL0 <|
  rO (oMove rd2) wL0 <|
  rO (oMove rd2) wL0 <|
  rO (oLenV lo0) wL0 <|
  rO (oI ibSub lo0 (rdC (.int 3 (.ofNat 1)))) wL0 <|
  rO (oBuild [(.str 0 0), (.int 3 (.ofNat 0)), (.oth 1 0 [] []), (.int 3 (.ofNat 0))] [(2, 1, lo3), (3, 1, lo0)]) wL0 <|
  rO (oBuildSlice 1 [(.str 0 0), (.int 3 (.ofNat 0)), (.oth 1 0 [] []), (.int 3 (.ofNat 0))] [(0, 4, lo0)]) wL0 <|
  rO (oBuild [(.str 0 0), (.int 3 (.ofNat 0)), (.oth 1 0 [] [])] [(0, 1, lo7), (1, 1, lo6), (2, 1, lo0)]) wL0 <|
  rO (oStoreN 3 rd6 lo0) wN <|
  rSkip) rRet))
def d148 : DF := .mk [w0, w1, w2] (resN 3 rd6 resNil) c148
def c149 : Run :=
  (rSeq (rO (oAlloc (mkCells [(.int 3 (.ofNat 0)), (.str 0 0), (.int 3 (.ofNat 0)), (.oth 1 0 [] [])])) w4 <|
  rSkip) (rSeq (rO (oMove rd0) wL0 <|
  rO (oMove rd1) wL0 <|
  rO (oBuild [(.int 3 (.ofNat 0)), (.str 0 0), (.int 3 (.ofNat 0)), (.oth 1 0 [] [])] [(0, 1, (rdC (.int 3 (.ofNat 3)))), (1, 1, lo1), (3, 1, lo0)]) wL0 <|
  rO (oStoreN 4 rd4 lo0) wN <|
  rSkip) rRet))
def d149 : DF := .mk [w0, w1] (resN 4 rd4 resNil) c149
def c150 : Run :=
  (rSeq (rO (oAlloc (mkCells [(.int 3 (.ofNat 0)), (.str 0 0), (.int 3 (.ofNat 0)), (.oth 1 0 [] [])])) w4 <|
  rSkip) (rSeq (rO (oMove rd0) wL0 <|
  rO (oMove rd1) wL0 <|
  rO (oBuild [(.int 3 (.ofNat 0)), (.str 0 0), (.int 3 (.ofNat 0)), (.oth 1 0 [] [])] [(0, 1, (rdC (.int 3 (.ofNat 5)))), (1, 1, lo1), (3, 1, lo0)]) wL0 <|
  rO (oStoreN 4 rd4 lo0) wN <|
  rSkip) rRet))
def d150 : DF := .mk [w0, w1] (resN 4 rd4 resNil) c150
def c151 : Run :=
  (rSeq (rO (oAlloc (mkCells [(.int 3 (.ofNat 0)), (.str 0 0), (.int 3 (.ofNat 0)), (.oth 1 0 [] [])])) w2 <|
  rSkip) (rSeq (rO (oMove rd0) wL0 <|
  rO (oBuild [(.int 3 (.ofNat 0)), (.str 0 0), (.int 3 (.ofNat 0)), (.oth 1 0 [] [])] [(0, 1, (rdC (.int 3 (.ofNat 1)))), (2, 1, lo0)]) wL0 <|
  rO (oStoreN 4 rd2 lo0) wN <|
  rSkip) rRet))
def d151 : DF := .mk [w0] (resN 4 rd2 resNil) c151
def c152 : Run :=
  (rSeq (rO (oAlloc (mkCells [(.int 3 (.ofNat 0)), (.str 0 0), (.int 3 (.ofNat 0)), (.oth 1 0 [] [])])) w4 <|
  rSkip) (rSeq (rO (oMove rd0) wL0 <|
  rO (oMove rd1) wL0 <|
  rO (oBuild [(.int 3 (.ofNat 0)), (.str 0 0), (.int 3 (.ofNat 0)), (.oth 1 0 [] [])] [(0, 1, (rdC (.int 3 (.ofNat 4)))), (1, 1, lo1), (3, 1, lo0)]) wL0 <|
  rO (oStoreN 4 rd4 lo0) wN <|
  rSkip) rRet))
def d152 : DF := .mk [w0, w1] (resN 4 rd4 resNil) c152
def c153 : Run :=
  (rSeq (rO (oBox rd0) w2 <|
  rO (oAlloc (mkCells [(.oth 1 0 [] []), (.oth 1 0 [] []), (.oth 1 0 [] []), (.oth 1 0 [] []), (.int 3 (.ofNat 0)), (.int 3 (.ofNat 0)), (.oth 1 0 [] [])])) w3 <|
  rO (oMove (rdC (.int 3 (.ofNat 0)))) w4 <|
  rSkip) (rSeq (rSeq (rO (oLoad1 rd1) wL0 <|
  rO (oI ibLss lo0 (rdC (.int 3 (.ofNat 0)))) wL0 <|
  rO (oMove lo0) wL0 <|
  rG lo0 false wL0 (rO (oLoad1 rd1) wL0) <|
  rG lo1 false wL0 (rO (oI ibGtr lo0 (rdC (.int 3 (.ofNat 400)))) wL0) <|
  rO (oPick lo2 (rdC (.bool true)) lo0) w11 <|
  rSkip) (rCond rd11 (rSeq (rO (oBuild [(.oth 1 0 [] []), (.oth 1 0 [] []), (.oth 1 0 [] []), (.oth 1 0 [] []), (.int 3 (.ofNat 0)), (.int 3 (.ofNat 0)), (.oth 1 0 [] [])] []) wL0 <|
  rO (oStoreN 7 rd3 lo0) wN <|
  rO (oMove (rdC (.int 3 (.ofNat 3)))) w4 <|
  rSkip) rRet) rSkip)) (rSeq (rO (oMove (rdC (.int 3 (.ofNat 0)))) w5 <|
  rSkip) (rSeq (rBlock 0 (rLoop (rSeq (rSeq (rO (oFieldAddr 6 rd2) wL0 <|
  rO (oLoad1 lo0) wL0 <|
  rO (oLenV lo0) wL0 <|
  rO (oLoad1 rd1) wL0 <|
  rO (oI ibNeq lo1 lo0) wL0 <|
  rO (oMove lo0) wL0 <|
  rG lo0 true wL0 (rO (oMove rd5) wL0) <|
  rG lo1 true wL0 (rO (oI ibEql lo0 (rdC (.int 3 (.ofNat 0)))) wL0) <|
  rO (oPick lo2 lo0 (rdC (.bool false))) w21 <|
  rSkip) (rCond rd21 rSkip (rExit 0))) (rBlock 1 (rSeq (rO (oFieldAddr 6 rd2) wL0 <|
  rO (oLoad1 lo0) wL0 <|
  rO (oLenV lo0) wL0 <|
  rO (oLoad1 rd1) wL0 <|
  rO (oI ibGtr lo1 lo0) w26 <|
  rSkip) (rCond rd26 (rO (oLoadN 7 rd2) wL0 <|
  rCall 154 [lo0] wL0 <|
  rO (oMove lo0) wL0 <|
  rO (oExtract 0 lo0) wL0 <|
  rO (oExtract 1 lo1) wL0 <|
  rO (oStoreN 7 rd2 lo1) wN <|
  rO (oMove lo0) w5 <|
  rSkip) (rO (oLoadN 7 rd2) wL0 <|
  rCall 147 [lo0] wL0 <|
  rO (oMove lo0) wL0 <|
  rO (oExtract 0 lo0) wL0 <|
  rO (oExtract 1 lo1) wL0 <|
  rO (oStoreN 7 rd2 lo1) wN <|
  rO (oMove lo0) w5 <|
  rSkip))))))) (rSeq (rO (oLoadN 7 rd2) wL0 <|
  rO (oMove rd5) wL0 <|
  rO (oStoreN 7 rd3 lo1) wN <|
  rO (oMove lo0) w4 <|
  rSkip) rRet)))))
def d153 : DF := .mk [w0, w1] (resN 7 rd3 (resT rd4 resNil)) c153
def c154 : Run :=
  (rSeq (rO (oBox rd0) w1 <|
  rO (oAlloc (mkCells [(.oth 1 0 [] []), (.oth 1 0 [] []), (.oth 1 0 [] []), (.oth 1 0 [] []), (.int 3 (.ofNat 0)), (.int 3 (.ofNat 0)), (.oth 1 0 [] [])])) w2 <|
  rO (oMove (rdC (.int 3 (.ofNat 0)))) w3 <|
  rSkip) (rSeq (rO (oFieldAddr 6 rd1) wL0 <|
  rO (oLoad1 lo0) wL0 <|
  rO (oLenV lo0) wL0 <|
  rO (oI ibSub lo0 (rdC (.int 3 (.ofNat 1)))) wL0 <|
  rO (oMove lo0) w4 <|
  rSkip) (rSeq (rSeq (rO (oMove rd4) wL0 <|
  rO (oI ibLss lo0 (rdC (.int 3 (.ofNat 0)))) w12 <|
  rSkip) (rCond rd12 (rSeq (rO (oBuild [(.oth 1 0 [] []), (.oth 1 0 [] []), (.oth 1 0 [] []), (.oth 1 0 [] []), (.int 3 (.ofNat 0)), (.int 3 (.ofNat 0)), (.oth 1 0 [] [])] []) wL0 <|
  rO (oStoreN 7 rd2 lo0) wN <|
  rO (oMove (rdC (.int 3 (.ofNat 6)))) w3 <|
  rSkip) rRet) rSkip)) (rSeq (rO (oFieldAddr 1 rd1) wL0 <|
  rO (oLoadN 5 lo0) wL0 <|
  rO (oFieldAddr 6 rd1) wL0 <|
  rO (oLoad1 lo0) wL0 <|
  rO (oMove rd4) wL0 <|
  rO (oIndexAddrV 8 lo1 lo0) wL0 <|
  rO (oLoadN 8 lo0) wL0 <|
  rO (oAlloc (mkCells [(.oth 1 0 [] []), (.oth 1 0 [] []), (.oth 1 0 [] []), (.int 3 (.ofNat 0)), (.int 3 (.ofNat 0))])) w5 <|
  rCall 22 [lo5, lo0] wL0 <|
  rChkA (fun _ => [(.oth 1 0 [] []), (.oth 1 0 [] []), (.oth 1 0 [] []), (.int 3 (.ofNat 0)), (.int 3 (.ofNat 0))]) rd5 <|
  rO (oMove lo0) wL0 <|
  rO (oExtract 0 lo0) wL0 <|
  rO (oExtract 1 lo1) wL0 <|
  rO (oStoreN 5 rd5 lo1) wN <|
  rO (oMove lo0) w6 <|
  rSkip) (rSeq (rO (oLoadN 5 rd5) wL0 <|
  rO (oFieldAddr 6 rd1) wL0 <|
  rO (oLoad1 lo0) wL0 <|
  rO (oMove rd4) wL0 <|
  rO (oSliceV 8 lo1 none (some lo0)) wL0 <|
  rO (oFieldAddr 1 rd1) wL0 <|
  rO (oStoreN 5 lo0 lo5) wN <|
  rO (oFieldAddr 6 rd1) wL0 <|
  rO (oStore1 lo0 lo2) wN <|
  rSkip) (rSeq (rO (oLoadN 7 rd1) wL0 <|
  rO (oMove rd6) wL0 <|
  rO (oStoreN 7 rd2 lo1) wN <|
  rO (oMove lo0) w3 <|
  rSkip) rRet))))))
def d154 : DF := .mk [w0] (resN 7 rd2 (resT rd3 resNil)) c154
def c155 : Run :=
  (rSeq (rO (oBox rd0) w1 <|
  rO (oMove (rdC (.bool false))) w2 <|
  rSkip) (rSeq (rSeq (rO (oFieldAddr 1 rd1) wL0 <|
  rO (oFieldAddr 1 lo0) wL0 <|
  rO (oLoad1 lo0) wL0 <|
  rO (oLenV lo0) wL0 <|
  rO (oI ibEql lo0 (rdC (.int 3 (.ofNat 0)))) w13 <|
  rSkip) (rCond rd13 (rSeq (rO (oMove (rdC (.bool false))) w2 <|
  rSkip) rRet) rSkip)) (rSeq (rO (oFieldAddr 1 rd1) wL0 <|
  rO (oFieldAddr 1 lo0) wL0 <|
  rO (oLoad1 lo0) wL0 <|
  rO (oIndexAddrV 5 lo0 (rdC (.int 3 (.ofNat 0)))) wL0 <|
  rO (oLoadN 5 lo0) wL0 <|
  rO (oAlloc (mkCells [(.int 3 (.ofNat 0)), (.int 3 (.ofNat 0)), (.oth 1 0 [] []), (.bool false), (.int 3 (.ofNat 0))])) w3 <|
  rO (oStoreN 5 rd3 lo0) wN <|
  rSkip) (rSeq (rO (oFieldAddr 0 rd1) wL0 <|
  rO (oLoadN 1 lo0) wL0 <|
  rO (oFieldAddr 0 rd1) wL0 <|
  rO (oFieldAddr 0 lo0) wL0 <|
  rO (oLoad1 lo0) wL0 <|
  rO (oFieldAddr 0 rd3) wL0 <|
  rO (oLoad1 lo0) wL0 <|
  rO (oIndexAddrV 3 lo2 lo0) wL0 <|
  rO (oFieldAddr 0 lo0) wL0 <|
  rO (oLoad1 lo0) wL0 <|
  rO (oFieldAddr 2 rd3) wL0 <|
  rO (oLoad1 lo0) wL0 <|
  rO (oAlloc (mkCells [(.oth 1 0 [] []), (.oth 1 0 [] []), (.oth 1 0 [] []), (.int 3 (.ofNat 0)), (.int 3 (.ofNat 0))])) w4 <|
  rCall 140 [lo10, lo2, lo0] wL0 <|
  rChkA (fun _ => [(.oth 1 0 [] []), (.oth 1 0 [] []), (.oth 1 0 [] []), (.int 3 (.ofNat 0)), (.int 3 (.ofNat 0))]) rd4 <|
  rO (oMove lo0) wL0 <|
  rO (oExtract 0 lo0) wL0 <|
  rO (oExtract 1 lo1) wL0 <|
  rO (oStoreN 5 rd4 lo1) wN <|
  rO (oMove lo0) w5 <|
  rSkip) (rSeq (rSeq (rO (oFieldAddr 6 rd1) wL0 <|
  rO (oLoad1 lo0) w36 <|
  rO (oLenV rd36) w37 <|
  rO (oMove (rdC (.int 3 (.ofNat 0)))) w38 <|
  rSkip) (rBlock 0 (rLoop (rSeq (rO (oI ibLss rd38 rd37) w39 <|
  rSkip) (rSeq (rCond rd39 rSkip (rExit 0)) (rSeq (rBlock 1 (rSeq (rO (oIndexAddrV 8 rd36 rd38) wL0 <|
  rO (oLoadN 8 lo0) wL0 <|
  rO (oAlloc (mkCells [(.int 3 (.ofNat 0)), (.bool false), (.bool false), (.int 3 (.ofNat 0)), (.int 3 (.ofNat 0)), (.oth 1 0 [] []), (.bool false), (.int 3 (.ofNat 0))])) w7 <|
  rO (oStoreN 8 rd7 lo0) wN <|
  rSkip) (rSeq (rO (oAlloc (mkCells [(.int 3 (.ofNat 0)), (.bool false), (.bool false), (.int 3 (.ofNat 0)), (.int 3 (.ofNat 0)), (.oth 1 0 [] []), (.bool false), (.int 3 (.ofNat 0))])) w8 <|
  rSkip) (rSeq (rSeq (rO (oMove rd5) wL0 <|
  rO (oI ibEql lo0 (rdC (.int 3 (.ofNat 0)))) w43 <|
  rSkip) (rCond rd43 (rO (oFieldAddr 0 rd1) wL0 <|
  rO (oLoadN 1 lo0) wL0 <|
  rO (oLoadN 5 rd4) wL0 <|
  rCall 96 [lo1, lo0] wL0 <|
  rO (oMove lo0) wL0 <|
  rO (oExtract 0 lo0) wL0 <|
  rO (oExtract 1 lo1) wL0 <|
  rO (oExtract 2 lo2) wL0 <|
  rO (oStoreN 5 rd4 lo2) wN <|
  rO (oStoreN 8 rd8 lo1) wN <|
  rO (oMove lo0) w5 <|
  rSkip) rSkip)) (rSeq (rO (oMove rd5) wL0 <|
  rO (oI ibNeq lo0 (rdC (.int 3 (.ofNat 0)))) wL0 <|
  rO (oMove lo0) wL0 <|
  rG lo0 false wL0 (rO (oLoadN 8 rd7) wL0) <|
  rG lo1 false wL0 (rO (oLoadN 8 rd8) wL0) <|
  rG lo2 false wL0 (rCall 222 [lo1, lo0] wL0) <|
  rG lo3 false wL0 (rO (oNot lo0) wL0) <|
  rO (oPick lo4 (rdC (.bool true)) lo0) w59 <|
  rSkip) (rCond rd59 (rSeq (rO (oMove (rdC (.bool false))) w2 <|
  rSkip) rRet) rSkip)))))) (rO (oI ibAdd rd38 (rdC (.int 3 (.ofNat 1)))) wL0 <|
  rO (oMove lo0) w38 <|
  rSkip))))))) (rSeq (rO (oMove rd5) wL0 <|
  rO (oI ibEql lo0 (rdC (.int 3 (.ofNat 0)))) wL0 <|
  rO (oMove lo0) wL0 <|
  rG lo0 true wL0 (rO (oFieldAddr 3 rd4) wL0) <|
  rG lo1 true wL0 (rO (oLoad1 lo0) wL0) <|
  rG lo2 true wL0 (rO (oFieldAddr 1 rd1) wL0) <|
  rG lo3 true wL0 (rO (oFieldAddr 3 lo0) wL0) <|
  rG lo4 true wL0 (rO (oLoad1 lo0) wL0) <|
  rG lo5 true wL0 (rO (oBuildSlice 2 [(.int 3 (.ofNat 0)), (.int 3 (.ofNat 0))] [(0, 1, lo3), (1, 1, lo0)]) wL0) <|
  rG lo6 true wL0 (rCall 130 [lo0] wL0) <|
  rO (oPick lo7 lo0 (rdC (.bool false))) wL0 <|
  rO (oMove lo0) wL0 <|
  rG lo0 true wL0 (rO (oFieldAddr 4 rd4) wL0) <|
  rG lo1 true wL0 (rO (oLoad1 lo0) wL0) <|
  rG lo2 true wL0 (rO (oFieldAddr 1 rd1) wL0) <|
  rG lo3 true wL0 (rO (oFieldAddr 4 lo0) wL0) <|
  rG lo4 true wL0 (rO (oLoad1 lo0) wL0) <|
  rG lo5 true wL0 (rO (oI ibEql lo3 lo0) wL0) <|
  rO (oPick lo6 lo0 (rdC (.bool false))) wL0 <|
  rO (oMove lo0) wL0 <|
  rG lo0 true wL0 (rO (oLoadN 5 rd4) wL0) <|
  rG lo1 true wL0 (rO (oFieldAddr 1 rd1) wL0) <|
  rG lo2 true wL0 (rO (oLoadN 5 lo0) wL0) <|
  rG lo3 true wL0 (rCall 71 [lo2, lo0] wL0) <|
  rO (oPick lo4 lo0 (rdC (.bool false))) wL0 <|
  rO (oMove lo0) w2 <|
  rSkip) rRet))))))
def d155 : DF := .mk [w0] (resT rd2 resNil) c155
def c156 : Run :=
  (rSeq (rO (oBox rd0) w3 <|
  rO (oBox rd1) w4 <|
  rO (oAlloc (mkCells [(.oth 1 0 [] []), (.oth 1 0 [] []), (.oth 1 0 [] []), (.int 3 (.ofNat 0)), (.int 3 (.ofNat 0))])) w6 <|
  rO (oMove (rdC (.int 3 (.ofNat 0)))) w7 <|
  rSkip) (rSeq (rO (oLoadN 1 rd3) wL0 <|
  rO (oLoadN 5 rd4) wL0 <|
  rCall 223 [lo1, lo0] wL0 <|
  rO (oMove lo0) wL0 <|
  rO (oExtract 0 lo0) wL0 <|
  rO (oExtract 1 lo1) wL0 <|
  rO (oMove lo1) w8 <|
  rO (oMove lo0) w9 <|
  rSkip) (rSeq (rSeq (rO (oMove rd9) wL0 <|
  rO (oI ibNeq lo0 (rdC (.int 3 (.ofNat 0)))) w18 <|
  rSkip) (rCond rd18 (rSeq (rO (oBuild [(.oth 1 0 [] []), (.oth 1 0 [] []), (.oth 1 0 [] []), (.int 3 (.ofNat 0)), (.int 3 (.ofNat 0))] []) wL0 <|
  rO (oMove rd9) wL0 <|
  rO (oStoreN 5 rd6 lo1) wN <|
  rO (oMove lo0) w7 <|
  rSkip) rRet) rSkip)) (rSeq (rSeq (rO (oMove rd2) wL0 <|
  rO (oI ibLss lo0 (rdC (.int 3 (.ofNat 0)))) wL0 <|
  rO (oMove lo0) wL0 <|
  rG lo0 false wL0 (rO (oMove rd2) wL0) <|
  rG lo1 false wL0 (rO (oI ibGtr lo0 (rdC (.int 3 (.ofNat 100000)))) wL0) <|
  rO (oPick lo2 (rdC (.bool true)) lo0) w26 <|
  rSkip) (rCond rd26 (rSeq (rO (oBuild [(.oth 1 0 [] []), (.oth 1 0 [] []), (.oth 1 0 [] []), (.int 3 (.ofNat 0)), (.int 3 (.ofNat 0))] []) wL0 <|
  rO (oStoreN 5 rd6 lo0) wN <|
  rO (oMove (rdC (.int 3 (.ofNat 3)))) w7 <|
  rSkip) rRet) rSkip)) (rSeq rSkip (rSeq (rSeq (rO (oMove rd2) w28 <|
  rO (oMove (rdC (.int 3 (.ofNat 0)))) w29 <|
  rSkip) (rBlock 0 (rLoop (rSeq (rO (oI ibLss rd29 rd28) w30 <|
  rSkip) (rSeq (rCond rd30 rSkip (rExit 0)) (rSeq (rBlock 1 (rSeq (rSeq (rO (oMove rd8) wL0 <|
  rO (oNilCheck lo0) wL0 <|
  rO (oFieldAddr 0 lo0) wL0 <|
  rO (oLoadN 5 lo0) wL0 <|
  rCall 69 [lo0] w35 <|
  rSkip) (rCond rd35 (rExit 0) rSkip)) (rSeq (rO (oMove rd8) wL0 <|
  rCall 224 [lo0] wL0 <|
  rO (oMove lo0) w10 <|
  rSkip) (rSeq (rO (oMove rd10) wL0 <|
  rO (oI ibNeq lo0 (rdC (.int 3 (.ofNat 0)))) w39 <|
  rSkip) (rCond rd39 (rSeq (rO (oBuild [(.oth 1 0 [] []), (.oth 1 0 [] []), (.oth 1 0 [] []), (.int 3 (.ofNat 0)), (.int 3 (.ofNat 0))] []) wL0 <|
  rO (oMove rd10) wL0 <|
  rO (oStoreN 5 rd6 lo1) wN <|
  rO (oMove lo0) w7 <|
  rSkip) rRet) rSkip))))) (rO (oI ibAdd rd29 (rdC (.int 3 (.ofNat 1)))) wL0 <|
  rO (oMove lo0) w29 <|
  rSkip))))))) (rSeq (rO (oMove rd8) wL0 <|
  rO (oNilCheck lo0) wL0 <|
  rO (oFieldAddr 0 lo0) wL0 <|
  rO (oLoadN 5 lo0) wL0 <|
  rO (oStoreN 5 rd6 lo0) wN <|
  rO (oMove (rdC (.int 3 (.ofNat 0)))) w7 <|
  rSkip) rRet)))))))
def d156 : DF := .mk [w0, w1, w2] (resN 5 rd6 (resT rd7 resNil)) c156
def c157 : Run :=
  (rSeq (rO (oBox rd0) w2 <|
  rO (oBox rd1) w3 <|
  rO (oMove (rdC (.bool false))) w4 <|
  rSkip) (rSeq (rO (oFieldAddr 0 rd2) wL0 <|
  rO (oLoad1 lo0) wL0 <|
  rO (oFieldAddr 0 rd3) wL0 <|
  rO (oLoad1 lo0) wL0 <|
  rO (oI ibEql lo2 lo0) wL0 <|
  rO (oMove lo0) wL0 <|
  rG lo0 true wL0 (rO (oFieldAddr 1 rd2) wL0) <|
  rG lo1 true wL0 (rO (oLoad1 lo0) wL0) <|
  rG lo2 true wL0 (rO (oFieldAddr 1 rd3) wL0) <|
  rG lo3 true wL0 (rO (oLoad1 lo0) wL0) <|
  rG lo4 true wL0 (rO (oI ibEql lo2 lo0) wL0) <|
  rO (oPick lo5 lo0 (rdC (.bool false))) wL0 <|
  rO (oMove lo0) wL0 <|
  rG lo0 true wL0 (rO (oFieldAddr 3 rd2) wL0) <|
  rG lo1 true wL0 (rO (oLoad1 lo0) wL0) <|
  rG lo2 true wL0 (rO (oFieldAddr 3 rd3) wL0) <|
  rG lo3 true wL0 (rO (oLoad1 lo0) wL0) <|
  rG lo4 true wL0 (rO (oB true lo2 lo0) wL0) <|
  rO (oPick lo5 lo0 (rdC (.bool false))) wL0 <|
  rO (oMove lo0) wL0 <|
  rG lo0 true wL0 (rO (oFieldAddr 4 rd2) wL0) <|
  rG lo1 true wL0 (rO (oLoad1 lo0) wL0) <|
  rG lo2 true wL0 (rO (oFieldAddr 4 rd3) wL0) <|
  rG lo3 true wL0 (rO (oLoad1 lo0) wL0) <|
  rG lo4 true wL0 (rO (oI ibEql lo2 lo0) wL0) <|
  rO (oPick lo5 lo0 (rdC (.bool false))) wL0 <|
  rO (oMove lo0) wL0 <|
  rG lo0 true wL0 (rO (oFieldAddr 2 rd2) wL0) <|
  rG lo1 true wL0 (rO (oLoad1 lo0) wL0) <|
  rG lo2 true wL0 (rO (oFieldAddr 2 rd3) wL0) <|
  rG lo3 true wL0 (rO (oLoad1 lo0) wL0) <|
  rG lo4 true wL0 (rCall 158 [lo2, lo0, (rdC (.oth 4 159 [] []))] wL0) <|
  rO (oPick lo5 lo0 (rdC (.bool false))) wL0 <|
  rO (oMove lo0) w4 <|
  rSkip) rRet))
def d157 : DF := .mk [w0, w1] (resT rd4 resNil) c157
def c158 : Run :=
  (rSeq (rO (oMove (rdC (.bool false))) w6 <|
  rSkip) (rSeq (rSeq (rO (oMove rd0) wL0 <|
  rO (oLenV lo0) wL0 <|
  rO (oMove rd1) wL0 <|
  rO (oLenV lo0) wL0 <|
  rO (oI ibNeq lo2 lo0) w14 <|
  rSkip) (rCond rd14 (rSeq (rO (oMove (rdC (.bool false))) w6 <|
  rSkip) rRet) rSkip)) (rSeq (rSeq (rO (oMove rd0) w15 <|
  rO (oLenV rd15) w16 <|
  rO (oMove (rdC (.int 3 (.ofNat 0)))) w17 <|
  rSkip) (rBlock 0 (rLoop (rSeq (rO (oI ibLss rd17 rd16) w18 <|
  rSkip) (rSeq (rCond rd18 rSkip (rExit 0)) (rSeq (rBlock 1 (rSeq (rO (oMove rd17) wL0 <|
  rO (oIndexAddrV 2 rd15 rd17) wL0 <|
  rO (oLoadN 2 lo0) wL0 <|
  rO (oAlloc (mkCells [(.oth 1 0 [] []), (.int 3 (.ofNat 0))])) w8 <|
  rO (oMove lo2) w7 <|
  rO (oStoreN 2 rd8 lo0) wN <|
  rSkip) (rSeq (rO (oMove rd1) wL0 <|
  rO (oMove rd7) wL0 <|
  rO (oIndexAddrV 2 lo1 lo0) wL0 <|
  rO (oLoadN 2 lo0) wL0 <|
  rO (oAlloc (mkCells [(.oth 1 0 [] []), (.int 3 (.ofNat 0))])) w9 <|
  rO (oStoreN 2 rd9 lo0) wN <|
  rSkip) (rSeq (rO (oMove rd2) wL0 <|
  rO (oLoadN 2 rd8) wL0 <|
  rO (oLoadN 2 rd9) wL0 <|
  rCallV lo2 [lo1, lo0] wL0 <|
  rO (oNot lo0) w30 <|
  rSkip) (rCond rd30 (rSeq (rO (oMove (rdC (.bool false))) w6 <|
  rSkip) rRet) rSkip))))) (rO (oI ibAdd rd17 (rdC (.int 3 (.ofNat 1)))) wL0 <|
  rO (oMove lo0) w17 <|
  rSkip))))))) (rSeq (rO (oMove (rdC (.bool true))) w6 <|
  rSkip) rRet))))
def d158 : DF := .mk [w0, w1, w2] (resT rd6 resNil) c158
def c159 : Run :=
  (rSeq (rO (oBox rd0) w2 <|
  rO (oBox rd1) w3 <|
  rO (oMove (rdC (.bool false))) w4 <|
  rSkip) (rSeq (rO (oFieldAddr 1 rd2) wL0 <|
  rO (oLoad1 lo0) wL0 <|
  rO (oFieldAddr 1 rd3) wL0 <|
  rO (oLoad1 lo0) wL0 <|
  rO (oI ibEql lo2 lo0) wL0 <|
  rO (oMove lo0) wL0 <|
  rG lo0 true wL0 (rO (oFieldAddr 0 rd2) wL0) <|
  rG lo1 true wL0 (rO (oLoad1 lo0) wL0) <|
  rG lo2 true wL0 (rO (oFieldAddr 0 rd3) wL0) <|
  rG lo3 true wL0 (rO (oLoad1 lo0) wL0) <|
  rG lo4 true wL0 (rCall 161 [lo2, lo0, (rdC (.oth 4 162 [] []))] wL0) <|
  rO (oPick lo5 lo0 (rdC (.bool false))) wL0 <|
  rO (oMove lo0) w4 <|
  rSkip) rRet))
def d159 : DF := .mk [w0, w1] (resT rd4 resNil) c159
def c160 : Run :=
  (rSeq (rO (oBox rd0) w2 <|
  rO (oBox rd1) w3 <|
  rO (oMove (rdC (.bool false))) w4 <|
  rSkip) (rSeq (rO (oFieldAddr 0 rd2) wL0 <|
  rO (oLoad1 lo0) wL0 <|
  rO (oFieldAddr 1 rd2) wL0 <|
  rO (oLoad1 lo0) wL0 <|
  rO (oFieldAddr 2 rd2) wL0 <|
  rO (oLoad1 lo0) wL0 <|
  rO (oLenV lo0) wL0 <|
  rO (oBuild [(.int 3 (.ofNat 0)), (.int 3 (.ofNat 0)), (.int 3 (.ofNat 0))] [(0, 1, lo5), (1, 1, lo3), (2, 1, lo0)]) wL0 <|
  rO (oFieldAddr 0 rd3) wL0 <|
  rO (oLoad1 lo0) wL0 <|
  rO (oFieldAddr 1 rd3) wL0 <|
  rO (oLoad1 lo0) wL0 <|
  rO (oFieldAddr 2 rd3) wL0 <|
  rO (oLoad1 lo0) wL0 <|
  rO (oLenV lo0) wL0 <|
  rO (oBuild [(.int 3 (.ofNat 0)), (.int 3 (.ofNat 0)), (.int 3 (.ofNat 0))] [(0, 1, lo5), (1, 1, lo3), (2, 1, lo0)]) wL0 <|
  rO (oAg 2185 true lo8 lo0) wL0 <|
  rO (oMove lo0) wL0 <|
  rG lo0 true wL0 (rO (oFieldAddr 2 rd2) wL0) <|
  rG lo1 true wL0 (rO (oLoad1 lo0) wL0) <|
  rG lo2 true wL0 (rO (oFieldAddr 2 rd3) wL0) <|
  rG lo3 true wL0 (rO (oLoad1 lo0) wL0) <|
  rG lo4 true wL0 (rCall 47 [lo2, lo0] wL0) <|
  rO (oPick lo5 lo0 (rdC (.bool false))) wL0 <|
  rO (oMove lo0) w4 <|
  rSkip) rRet))
def d160 : DF := .mk [w0, w1] (resT rd4 resNil) c160
def c161 : Run :=
  (rSeq (rO (oMove (rdC (.bool false))) w6 <|
  rSkip) (rSeq (rSeq (rO (oMove rd0) wL0 <|
  rO (oLenV lo0) wL0 <|
  rO (oMove rd1) wL0 <|
  rO (oLenV lo0) wL0 <|
  rO (oI ibNeq lo2 lo0) w14 <|
  rSkip) (rCond rd14 (rSeq (rO (oMove (rdC (.bool false))) w6 <|
  rSkip) rRet) rSkip)) (rSeq (rSeq (rO (oMove rd0) w15 <|
  rO (oLenV rd15) w16 <|
  rO (oMove (rdC (.int 3 (.ofNat 0)))) w17 <|
  rSkip) (rBlock 0 (rLoop (rSeq (rO (oI ibLss rd17 rd16) w18 <|
  rSkip) (rSeq (rCond rd18 rSkip (rExit 0)) (rSeq (rBlock 1 (rSeq (rO (oMove rd17) wL0 <|
  rO (oIndexAddrV 2 rd15 rd17) wL0 <|
  rO (oLoadN 2 lo0) wL0 <|
  rO (oAlloc (mkCells [(.str 0 0), (.oth 1 0 [] [])])) w8 <|
  rO (oMove lo2) w7 <|
  rO (oStoreN 2 rd8 lo0) wN <|
  rSkip) (rSeq (rO (oMove rd1) wL0 <|
  rO (oMove rd7) wL0 <|
  rO (oIndexAddrV 2 lo1 lo0) wL0 <|
  rO (oLoadN 2 lo0) wL0 <|
  rO (oAlloc (mkCells [(.str 0 0), (.oth 1 0 [] [])])) w9 <|
  rO (oStoreN 2 rd9 lo0) wN <|
  rSkip) (rSeq (rO (oMove rd2) wL0 <|
  rO (oLoadN 2 rd8) wL0 <|
  rO (oLoadN 2 rd9) wL0 <|
  rCallV lo2 [lo1, lo0] wL0 <|
  rO (oNot lo0) w30 <|
  rSkip) (rCond rd30 (rSeq (rO (oMove (rdC (.bool false))) w6 <|
  rSkip) rRet) rSkip))))) (rO (oI ibAdd rd17 (rdC (.int 3 (.ofNat 1)))) wL0 <|
  rO (oMove lo0) w17 <|
  rSkip))))))) (rSeq (rO (oMove (rdC (.bool true))) w6 <|
  rSkip) rRet))))
def d161 : DF := .mk [w0, w1, w2] (resT rd6 resNil) c161
def c162 : Run :=
  (rSeq (rO (oBox rd0) w2 <|
  rO (oBox rd1) w3 <|
  rO (oMove (rdC (.bool false))) w4 <|
  rSkip) (rSeq (rO (oFieldAddr 0 rd2) wL0 <|
  rO (oLoad1 lo0) wL0 <|
  rO (oFieldAddr 0 rd3) wL0 <|
  rO (oLoad1 lo0) wL0 <|
  rO (oS sbEql lo2 lo0) wL0 <|
  rO (oMove lo0) wL0 <|
  rG lo0 true wL0 (rO (oFieldAddr 1 rd2) wL0) <|
  rG lo1 true wL0 (rO (oLoad1 lo0) wL0) <|
  rG lo2 true wL0 (rO (oFieldAddr 1 rd3) wL0) <|
  rG lo3 true wL0 (rO (oLoad1 lo0) wL0) <|
  rG lo4 true wL0 (rCall 47 [lo2, lo0] wL0) <|
  rO (oPick lo5 lo0 (rdC (.bool false))) wL0 <|
  rO (oMove lo0) w4 <|
  rSkip) rRet))
def d162 : DF := .mk [w0, w1] (resT rd4 resNil) c162
def c163 : Run :=
  (rSeq (rO (oMove (rdC (.bool false))) w6 <|
  rSkip) (rSeq (rSeq (rO (oMove rd0) wL0 <|
  rO (oLenV lo0) wL0 <|
  rO (oMove rd1) wL0 <|
  rO (oLenV lo0) wL0 <|
  rO (oI ibNeq lo2 lo0) w14 <|
  rSkip) (rCond rd14 (rSeq (rO (oMove (rdC (.bool false))) w6 <|
  rSkip) rRet) rSkip)) (rSeq (rSeq (rO (oMove rd0) w15 <|
  rO (oLenV rd15) w16 <|
  rO (oMove (rdC (.int 3 (.ofNat 0)))) w17 <|
  rSkip) (rBlock 0 (rLoop (rSeq (rO (oI ibLss rd17 rd16) w18 <|
  rSkip) (rSeq (rCond rd18 rSkip (rExit 0)) (rSeq (rBlock 1 (rSeq (rO (oMove rd17) wL0 <|
  rO (oIndexAddrV 5 rd15 rd17) wL0 <|
  rO (oLoadN 5 lo0) wL0 <|
  rO (oAlloc (mkCells [(.int 3 (.ofNat 0)), (.int 3 (.ofNat 0)), (.oth 1 0 [] []), (.bool false), (.int 3 (.ofNat 0))])) w8 <|
  rO (oMove lo2) w7 <|
  rO (oStoreN 5 rd8 lo0) wN <|
  rSkip) (rSeq (rO (oMove rd1) wL0 <|
  rO (oMove rd7) wL0 <|
  rO (oIndexAddrV 5 lo1 lo0) wL0 <|
  rO (oLoadN 5 lo0) wL0 <|
  rO (oAlloc (mkCells [(.int 3 (.ofNat 0)), (.int 3 (.ofNat 0)), (.oth 1 0 [] []), (.bool false), (.int 3 (.ofNat 0))])) w9 <|
  rO (oStoreN 5 rd9 lo0) wN <|
  rSkip) (rSeq (rO (oMove rd2) wL0 <|
  rO (oLoadN 5 rd8) wL0 <|
  rO (oLoadN 5 rd9) wL0 <|
  rCallV lo2 [lo1, lo0] wL0 <|
  rO (oNot lo0) w30 <|
  rSkip) (rCond rd30 (rSeq (rO (oMove (rdC (.bool false))) w6 <|
  rSkip) rRet) rSkip))))) (rO (oI ibAdd rd17 (rdC (.int 3 (.ofNat 1)))) wL0 <|
  rO (oMove lo0) w17 <|
  rSkip))))))) (rSeq (rO (oMove (rdC (.bool true))) w6 <|
  rSkip) rRet))))
def d163 : DF := .mk [w0, w1, w2] (resT rd6 resNil) c163
def c164 : Run :=
  (rSeq (rO (oMove (rdC (.bool false))) w6 <|
  rSkip) (rSeq (rSeq (rO (oMove rd0) wL0 <|
  rO (oLenV lo0) wL0 <|
  rO (oMove rd1) wL0 <|
  rO (oLenV lo0) wL0 <|
  rO (oI ibNeq lo2 lo0) w14 <|
  rSkip) (rCond rd14 (rSeq (rO (oMove (rdC (.bool false))) w6 <|
  rSkip) rRet) rSkip)) (rSeq (rSeq (rO (oMove rd0) w15 <|
  rO (oLenV rd15) w16 <|
  rO (oMove (rdC (.int 3 (.ofNat 0)))) w17 <|
  rSkip) (rBlock 0 (rLoop (rSeq (rO (oI ibLss rd17 rd16) w18 <|
  rSkip) (rSeq (rCond rd18 rSkip (rExit 0)) (rSeq (rBlock 1 (rSeq (rO (oMove rd17) wL0 <|
  rO (oIndexAddrV 3 rd15 rd17) wL0 <|
  rO (oLoadN 3 lo0) wL0 <|
  rO (oAlloc (mkCells [(.int 3 (.ofNat 0)), (.int 3 (.ofNat 0)), (.oth 1 0 [] [])])) w8 <|
  rO (oMove lo2) w7 <|
  rO (oStoreN 3 rd8 lo0) wN <|
  rSkip) (rSeq (rO (oMove rd1) wL0 <|
  rO (oMove rd7) wL0 <|
  rO (oIndexAddrV 3 lo1 lo0) wL0 <|
  rO (oLoadN 3 lo0) wL0 <|
  rO (oAlloc (mkCells [(.int 3 (.ofNat 0)), (.int 3 (.ofNat 0)), (.oth 1 0 [] [])])) w9 <|
  rO (oStoreN 3 rd9 lo0) wN <|
  rSkip) (rSeq (rO (oMove rd2) wL0 <|
  rO (oLoadN 3 rd8) wL0 <|
  rO (oLoadN 3 rd9) wL0 <|
  rCallV lo2 [lo1, lo0] wL0 <|
  rO (oNot lo0) w30 <|
  rSkip) (rCond rd30 (rSeq (rO (oMove (rdC (.bool false))) w6 <|
  rSkip) rRet) rSkip))))) (rO (oI ibAdd rd17 (rdC (.int 3 (.ofNat 1)))) wL0 <|
  rO (oMove lo0) w17 <|
  rSkip))))))) (rSeq (rO (oMove (rdC (.bool true))) w6 <|
  rSkip) rRet))))
def d164 : DF := .mk [w0, w1, w2] (resT rd6 resNil) c164
def c169 : Run :=
  (rSeq (rO (oMove (rdC (.int 3 (.ofNat 0)))) w4 <|
  rSkip) (rSeq (rSeq (rO (oMove rd0) wL0 <|
  rO (oLenV lo0) w7 <|
  rO (oMove (rdC (.int 3 (.ofNat 0)))) w8 <|
  rSkip) (rBlock 0 (rLoop (rSeq (rO (oI ibLss rd8 rd7) w9 <|
  rSkip) (rSeq (rCond rd9 rSkip (rExit 0)) (rSeq (rBlock 1 (rSeq (rO (oMove rd8) wL0 <|
  rO (oMove lo0) w5 <|
  rSkip) (rSeq (rO (oMove rd1) wL0 <|
  rO (oMove rd0) wL0 <|
  rO (oMove rd5) wL0 <|
  rO (oIndexAddrV 3 lo1 lo0) wL0 <|
  rO (oLoadN 3 lo0) wL0 <|
  rCallV lo4 [lo0] w16 <|
  rSkip) (rCond rd16 (rSeq (rO (oMove rd5) wL0 <|
  rO (oMove lo0) w4 <|
  rSkip) rRet) rSkip)))) (rO (oI ibAdd rd8 (rdC (.int 3 (.ofNat 1)))) wL0 <|
  rO (oMove lo0) w8 <|
  rSkip))))))) (rSeq (rO (oMove (rdC (.int 3 (.negSucc 0)))) w4 <|
  rSkip) rRet)))
def d169 : DF := .mk [w0, w1] (resT rd4 resNil) c169
def c170 : Run :=
  (rSeq (rO (oMove (rdC (.int 3 (.ofNat 0)))) w4 <|
  rSkip) (rSeq (rSeq (rO (oMove rd0) wL0 <|
  rO (oLenV lo0) w7 <|
  rO (oMove (rdC (.int 3 (.ofNat 0)))) w8 <|
  rSkip) (rBlock 0 (rLoop (rSeq (rO (oI ibLss rd8 rd7) w9 <|
  rSkip) (rSeq (rCond rd9 rSkip (rExit 0)) (rSeq (rBlock 1 (rSeq (rO (oMove rd8) wL0 <|
  rO (oMove lo0) w5 <|
  rSkip) (rSeq (rO (oMove rd1) wL0 <|
  rO (oMove rd0) wL0 <|
  rO (oMove rd5) wL0 <|
  rO (oIndexAddrV 4 lo1 lo0) wL0 <|
  rO (oLoadN 4 lo0) wL0 <|
  rCallV lo4 [lo0] w16 <|
  rSkip) (rCond rd16 (rSeq (rO (oMove rd5) wL0 <|
  rO (oMove lo0) w4 <|
  rSkip) rRet) rSkip)))) (rO (oI ibAdd rd8 (rdC (.int 3 (.ofNat 1)))) wL0 <|
  rO (oMove lo0) w8 <|
  rSkip))))))) (rSeq (rO (oMove (rdC (.int 3 (.negSucc 0)))) w4 <|
  rSkip) rRet)))
def d170 : DF := .mk [w0, w1] (resT rd4 resNil) c170
def c172 : Run :=
  (rSeq (rO (oMove (rdC (.int 3 (.ofNat 0)))) w4 <|
  rSkip) (rSeq (rSeq (rO (oMove rd0) wL0 <|
  rO (oLenV lo0) w7 <|
  rO (oMove (rdC (.int 3 (.ofNat 0)))) w8 <|
  rSkip) (rBlock 0 (rLoop (rSeq (rO (oI ibLss rd8 rd7) w9 <|
  rSkip) (rSeq (rCond rd9 rSkip (rExit 0)) (rSeq (rBlock 1 (rSeq (rO (oMove rd8) wL0 <|
  rO (oMove lo0) w5 <|
  rSkip) (rSeq (rO (oMove rd1) wL0 <|
  rO (oMove rd0) wL0 <|
  rO (oMove rd5) wL0 <|
  rO (oIndexAddrV 2 lo1 lo0) wL0 <|
  rO (oLoadN 2 lo0) wL0 <|
  rCallV lo4 [lo0] w16 <|
  rSkip) (rCond rd16 (rSeq (rO (oMove rd5) wL0 <|
  rO (oMove lo0) w4 <|
  rSkip) rRet) rSkip)))) (rO (oI ibAdd rd8 (rdC (.int 3 (.ofNat 1)))) wL0 <|
  rO (oMove lo0) w8 <|
  rSkip))))))) (rSeq (rO (oMove (rdC (.int 3 (.negSucc 0)))) w4 <|
  rSkip) rRet)))
def d172 : DF := .mk [w0, w1] (resT rd4 resNil) c172
def c174 : Run :=
  (rSeq (rO (oMove (rdC (.int 3 (.ofNat 0)))) w4 <|
  rSkip) (rSeq (rSeq (rO (oMove rd0) wL0 <|
  rO (oLenV lo0) w7 <|
  rO (oMove (rdC (.int 3 (.ofNat 0)))) w8 <|
  rSkip) (rBlock 0 (rLoop (rSeq (rO (oI ibLss rd8 rd7) w9 <|
  rSkip) (rSeq (rCond rd9 rSkip (rExit 0)) (rSeq (rBlock 1 (rSeq (rO (oMove rd8) wL0 <|
  rO (oMove lo0) w5 <|
  rSkip) (rSeq (rO (oMove rd1) wL0 <|
  rO (oMove rd0) wL0 <|
  rO (oMove rd5) wL0 <|
  rO (oIndexAddrV 5 lo1 lo0) wL0 <|
  rO (oLoadN 5 lo0) wL0 <|
  rCallV lo4 [lo0] w16 <|
  rSkip) (rCond rd16 (rSeq (rO (oMove rd5) wL0 <|
  rO (oMove lo0) w4 <|
  rSkip) rRet) rSkip)))) (rO (oI ibAdd rd8 (rdC (.int 3 (.ofNat 1)))) wL0 <|
  rO (oMove lo0) w8 <|
  rSkip))))))) (rSeq (rO (oMove (rdC (.int 3 (.negSucc 0)))) w4 <|
  rSkip) rRet)))
def d174 : DF := .mk [w0, w1] (resT rd4 resNil) c174
def c175 : Run :=
  (rSeq (rO (oMove (rdC (.int 3 (.ofNat 0)))) w4 <|
  rSkip) (rSeq (rSeq (rO (oMove rd0) wL0 <|
  rO (oLenV lo0) w7 <|
  rO (oMove (rdC (.int 3 (.ofNat 0)))) w8 <|
  rSkip) (rBlock 0 (rLoop (rSeq (rO (oI ibLss rd8 rd7) w9 <|
  rSkip) (rSeq (rCond rd9 rSkip (rExit 0)) (rSeq (rBlock 1 (rSeq (rO (oMove rd8) wL0 <|
  rO (oMove lo0) w5 <|
  rSkip) (rSeq (rO (oMove rd1) wL0 <|
  rO (oMove rd0) wL0 <|
  rO (oMove rd5) wL0 <|
  rO (oIndexAddrV 2 lo1 lo0) wL0 <|
  rO (oLoadN 2 lo0) wL0 <|
  rCallV lo4 [lo0] w16 <|
  rSkip) (rCond rd16 (rSeq (rO (oMove rd5) wL0 <|
  rO (oMove lo0) w4 <|
  rSkip) rRet) rSkip)))) (rO (oI ibAdd rd8 (rdC (.int 3 (.ofNat 1)))) wL0 <|
  rO (oMove lo0) w8 <|
  rSkip))))))) (rSeq (rO (oMove (rdC (.int 3 (.negSucc 0)))) w4 <|
  rSkip) rRet)))
def d175 : DF := .mk [w0, w1] (resT rd4 resNil) c175
def c181 : Run :=
  (rSeq (rO (oBox rd0) w1 <|
  rO (oMove (rdC (.int 3 (.ofNat 0)))) w2 <|
  rSkip) (rSeq (rSeq (rO (oFieldAddr 0 rd1) wL0 <|
  rO (oLoad1 lo0) wL0 <|
  rO (oLenV lo0) wL0 <|
  rO (oI ibLss lo0 (rdC (.int 3 (.ofNat 1)))) wL0 <|
  rO (oMove lo0) wL0 <|
  rG lo0 false wL0 (rO (oFieldAddr 0 rd1) wL0) <|
  rG lo1 false wL0 (rO (oLoad1 lo0) wL0) <|
  rG lo2 false wL0 (rO (oLenV lo0) wL0) <|
  rG lo3 false wL0 (rO (oI ibGtr lo0 (rdC (.int 3 (.ofNat 12)))) wL0) <|
  rO (oPick lo4 (rdC (.bool true)) lo0) w23 <|
  rSkip) (rCond rd23 (rSeq (rO (oMove (rdC (.int 3 (.ofNat 2)))) w2 <|
  rSkip) rRet) rSkip)) (rSeq (rSeq (rO (oFieldAddr 0 rd1) wL0 <|
  rO (oLoad1 lo0) w25 <|
  rO (oLenV rd25) w26 <|
  rO (oMove (rdC (.int 3 (.ofNat 0)))) w27 <|
  rSkip) (rBlock 0 (rLoop (rSeq (rO (oI ibLss rd27 rd26) w28 <|
  rSkip) (rSeq (rCond rd28 rSkip (rExit 0)) (rSeq (rBlock 1 (rSeq (rO (oIndexAddrV 3 rd25 rd27) wL0 <|
  rO (oLoadN 3 lo0) wL0 <|
  rO (oAlloc (mkCells [(.str 0 0), (.int 3 (.ofNat 0)), (.oth 1 0 [] [])])) w4 <|
  rO (oStoreN 3 rd4 lo0) wN <|
  rSkip) (rSeq (rO (oLoadN 3 rd4) wL0 <|
  rCall 242 [lo0] wL0 <|
  rO (oMove lo0) w5 <|
  rSkip) (rSeq (rO (oMove rd5) wL0 <|
  rO (oI ibNeq lo0 (rdC (.int 3 (.ofNat 0)))) w34 <|
  rSkip) (rCond rd34 (rSeq (rO (oMove rd5) wL0 <|
  rO (oMove lo0) w2 <|
  rSkip) rRet) rSkip))))) (rO (oI ibAdd rd27 (rdC (.int 3 (.ofNat 1)))) wL0 <|
  rO (oMove lo0) w27 <|
  rSkip))))))) (rSeq (rSeq (rO (oFieldAddr 0 rd1) wL0 <|
  rO (oLoad1 lo0) w38 <|
  rO (oLenV rd38) w39 <|
  rO (oMove (rdC (.int 3 (.ofNat 0)))) w40 <|
  rSkip) (rBlock 2 (rLoop (rSeq (rO (oI ibLss rd40 rd39) w41 <|
  rSkip) (rSeq (rCond rd41 rSkip (rExit 2)) (rSeq (rBlock 3 (rSeq (rO (oMove rd40) wL0 <|
  rO (oIndexAddrV 3 rd38 rd40) wL0 <|
  rO (oLoadN 3 lo0) wL0 <|
  rO (oAlloc (mkCells [(.str 0 0), (.int 3 (.ofNat 0)), (.oth 1 0 [] [])])) w7 <|
  rO (oMove lo2) w6 <|
  rO (oStoreN 3 rd7 lo0) wN <|
  rSkip) (rSeq (rO (oLoadN 1 rd1) wL0 <|
  rO (oFieldAddr 0 rd7) wL0 <|
  rO (oLoad1 lo0) wL0 <|
  rO (oMove rd6) wL0 <|
  rCall 220 [lo3] wL0 <|
  rChk (oLoad1 lo3) lo2 <|
  rCallV lo0 [lo2] wL0 <|
  rO (oI ibLss lo0 lo2) w51 <|
  rSkip) (rCond rd51 (rSeq (rO (oMove (rdC (.int 3 (.ofNat 5)))) w2 <|
  rSkip) rRet) rSkip)))) (rO (oI ibAdd rd40 (rdC (.int 3 (.ofNat 1)))) wL0 <|
  rO (oMove lo0) w40 <|
  rSkip))))))) (rSeq (rSeq (rO (oFieldAddr 0 rd1) wL0 <|
  rO (oLoad1 lo0) w54 <|
  rO (oLenV rd54) w55 <|
  rO (oMove (rdC (.int 3 (.ofNat 0)))) w56 <|
  rSkip) (rBlock 4 (rLoop (rSeq (rO (oI ibLss rd56 rd55) w57 <|
  rSkip) (rSeq (rCond rd57 rSkip (rExit 4)) (rSeq (rBlock 5 (rSeq (rO (oIndexAddrV 3 rd54 rd56) wL0 <|
  rO (oLoadN 3 lo0) wL0 <|
  rO (oAlloc (mkCells [(.str 0 0), (.int 3 (.ofNat 0)), (.oth 1 0 [] [])])) w9 <|
  rO (oStoreN 3 rd9 lo0) wN <|
  rSkip) (rSeq (rO (oFieldAddr 2 rd9) wL0 <|
  rO (oLoad1 lo0) w61 <|
  rO (oLenV rd61) w62 <|
  rO (oMove (rdC (.int 3 (.ofNat 0)))) w63 <|
  rSkip) (rBlock 6 (rLoop (rSeq (rO (oI ibLss rd63 rd62) w64 <|
  rSkip) (rSeq (rCond rd64 rSkip (rExit 6)) (rSeq (rBlock 7 (rSeq (rO (oIndexAddrV 4 rd61 rd63) wL0 <|
  rO (oLoadN 4 lo0) wL0 <|
  rO (oAlloc (mkCells [(.str 0 0), (.int 3 (.ofNat 0)), (.oth 1 0 [] []), (.int 3 (.ofNat 0))])) w11 <|
  rO (oStoreN 4 rd11 lo0) wN <|
  rSkip) (rSeq (rSeq (rO (oFieldAddr 2 rd11) wL0 <|
  rO (oLoad1 lo0) wL0 <|
  rO (oLenV lo0) w69 <|
  rO (oMove (rdC (.int 3 (.ofNat 0)))) w70 <|
  rSkip) (rBlock 8 (rLoop (rSeq (rO (oI ibLss rd70 rd69) w71 <|
  rSkip) (rSeq (rCond rd71 rSkip (rExit 8)) (rSeq (rBlock 9 (rSeq (rO (oMove rd70) wL0 <|
  rO (oMove lo0) w12 <|
  rSkip) (rSeq (rO (oLoadN 1 rd1) wL0 <|
  rO (oLoadN 3 rd9) wL0 <|
  rO (oLoadN 4 rd11) wL0 <|
  rO (oMove rd12) wL0 <|
  rCall 243 [lo3, lo2, lo1, lo0] wL0 <|
  rO (oMove lo0) w13 <|
  rSkip) (rSeq (rO (oMove rd13) wL0 <|
  rO (oI ibNeq lo0 (rdC (.int 3 (.ofNat 0)))) w79 <|
  rSkip) (rCond rd79 (rSeq (rO (oMove rd13) wL0 <|
  rO (oMove lo0) w2 <|
  rSkip) rRet) rSkip))))) (rO (oI ibAdd rd70 (rdC (.int 3 (.ofNat 1)))) wL0 <|
  rO (oMove lo0) w70 <|
  rSkip))))))) (rSeq (rO (oFieldAddr 3 rd11) wL0 <|
  rO (oLoad1 lo0) wL0 <|
  rO (oI ibLss lo0 (rdC (.int 3 (.ofNat 0)))) wL0 <|
  rO (oMove lo0) wL0 <|
  rG lo0 false wL0 (rO (oFieldAddr 3 rd11) wL0) <|
  rG lo1 false wL0 (rO (oLoad1 lo0) wL0) <|
  rG lo2 false wL0 (rO (oFieldAddr 2 rd11) wL0) <|
  rG lo3 false wL0 (rO (oLoad1 lo0) wL0) <|
  rG lo4 false wL0 (rO (oLenV lo0) wL0) <|
  rG lo5 false wL0 (rO (oI ibGeq lo3 lo0) wL0) <|
  rO (oPick lo6 (rdC (.bool true)) lo0) w92 <|
  rSkip) (rCond rd92 (rSeq (rO (oMove (rdC (.int 3 (.ofNat 1)))) w2 <|
  rSkip) rRet) rSkip))))) (rO (oI ibAdd rd63 (rdC (.int 3 (.ofNat 1)))) wL0 <|
  rO (oMove lo0) w63 <|
  rSkip))))))))) (rO (oI ibAdd rd56 (rdC (.int 3 (.ofNat 1)))) wL0 <|
  rO (oMove lo0) w56 <|
  rSkip))))))) (rSeq (rO (oMove (rdC (.int 3 (.ofNat 0)))) w2 <|
  rSkip) rRet))))))
def d181 : DF := .mk [w0] (resT rd2 resNil) c181
def c182 : Run :=
  (rSeq (rO (oBox rd0) w1 <|
  rO (oMove (rdC (.int 3 (.ofNat 0)))) w2 <|
  rSkip) (rSeq (rO (oLoadN 5 rd1) wL0 <|
  rCall 244 [lo0] wL0 <|
  rO (oMove lo0) w3 <|
  rSkip) (rSeq (rSeq (rO (oFieldAddr 0 rd1) wL0 <|
  rO (oLoad1 lo0) w9 <|
  rO (oLenV rd9) w10 <|
  rO (oMove (rdC (.int 3 (.ofNat 0)))) w11 <|
  rSkip) (rBlock 0 (rLoop (rSeq (rO (oI ibLss rd11 rd10) w12 <|
  rSkip) (rSeq (rCond rd12 rSkip (rExit 0)) (rSeq (rBlock 1 (rSeq (rO (oIndexAddrV 2 rd9 rd11) wL0 <|
  rO (oLoadN 2 lo0) wL0 <|
  rO (oAlloc (mkCells [(.str 0 0), (.oth 1 0 [] [])])) w5 <|
  rO (oStoreN 2 rd5 lo0) wN <|
  rSkip) (rBlock 2 (rSeq (rO (oFieldAddr 0 rd5) wL0 <|
  rO (oLoad1 lo0) wL0 <|
  rCall 245 [lo0] wL0 <|
  rO (oNot lo0) wL0 <|
  rO (oMove lo0) w15 <|
  rSkip) (rCond rd15 (rSeq (rO (oMove (rdC (.int 3 (.ofNat 4)))) w2 <|
  rSkip) rRet) (rSeq (rO (oFieldAddr 1 rd5) wL0 <|
  rO (oLoad1 lo0) wL0 <|
  rO (oLenV lo0) wL0 <|
  rO (oI ibGtr lo0 (rdC (.int 3 (.ofNat 4)))) wL0 <|
  rO (oMove lo0) w20 <|
  rSkip) (rCond rd20 (rSeq (rO (oMove (rdC (.int 3 (.ofNat 2)))) w2 <|
  rSkip) rRet) (rSeq (rO (oFieldAddr 1 rd5) wL0 <|
  rO (oLoad1 lo0) wL0 <|
  rO (oMove rd3) wL0 <|
  rCall 246 [lo1, lo0] wL0 <|
  rO (oNot lo0) wL0 <|
  rO (oMove lo0) w25 <|
  rSkip) (rCond rd25 (rSeq (rO (oMove (rdC (.int 3 (.ofNat 1)))) w2 <|
  rSkip) rRet) rSkip))))))))) (rO (oI ibAdd rd11 (rdC (.int 3 (.ofNat 1)))) wL0 <|
  rO (oMove lo0) w11 <|
  rSkip))))))) (rSeq (rO (oMove (rdC (.int 3 (.ofNat 0)))) w2 <|
  rSkip) rRet))))
def d182 : DF := .mk [w0] (resT rd2 resNil) c182
def c183 : Run :=
  (rSeq (rO (oBox rd0) w2 <|
  rO (oBox rd1) w3 <|
  rO (oMove (rdC (.int 3 (.ofNat 0)))) w4 <|
  rSkip) (rSeq (rO (oLoadN 5 rd3) wL0 <|
  rCall 244 [lo0] wL0 <|
  rO (oMove lo0) w5 <|
  rSkip) (rSeq (rSeq (rO (oFieldAddr 1 rd3) wL0 <|
  rO (oLoad1 lo0) w14 <|
  rO (oLenV rd14) w15 <|
  rO (oMove (rdC (.int 3 (.ofNat 0)))) w16 <|
  rSkip) (rBlock 0 (rLoop (rSeq (rO (oI ibLss rd16 rd15) w17 <|
  rSkip) (rSeq (rCond rd17 rSkip (rExit 0)) (rSeq (rBlock 1 (rSeq (rO (oIndexAddrV 5 rd14 rd16) wL0 <|
  rO (oLoadN 5 lo0) wL0 <|
  rO (oAlloc (mkCells [(.int 3 (.ofNat 0)), (.int 3 (.ofNat 0)), (.oth 1 0 [] []), (.bool false), (.int 3 (.ofNat 0))])) w7 <|
  rO (oStoreN 5 rd7 lo0) wN <|
  rSkip) (rSeq (rSeq (rO (oFieldAddr 0 rd7) wL0 <|
  rO (oLoad1 lo0) wL0 <|
  rO (oI ibLss lo0 (rdC (.int 3 (.ofNat 0)))) wL0 <|
  rO (oMove lo0) wL0 <|
  rG lo0 false wL0 (rO (oFieldAddr 0 rd7) wL0) <|
  rG lo1 false wL0 (rO (oLoad1 lo0) wL0) <|
  rG lo2 false wL0 (rO (oFieldAddr 0 rd2) wL0) <|
  rG lo3 false wL0 (rO (oLoad1 lo0) wL0) <|
  rG lo4 false wL0 (rO (oLenV lo0) wL0) <|
  rG lo5 false wL0 (rO (oI ibGeq lo3 lo0) wL0) <|
  rO (oPick lo6 (rdC (.bool true)) lo0) wL0 <|
  rO (oMove lo0) wL0 <|
  rG lo0 false wL0 (rO (oFieldAddr 1 rd7) wL0) <|
  rG lo1 false wL0 (rO (oLoad1 lo0) wL0) <|
  rG lo2 false wL0 (rO (oI ibLss lo0 (rdC (.int 3 (.ofNat 0)))) wL0) <|
  rO (oPick lo3 (rdC (.bool true)) lo0) wL0 <|
  rO (oMove lo0) wL0 <|
  rG lo0 false wL0 (rO (oFieldAddr 1 rd7) wL0) <|
  rG lo1 false wL0 (rO (oLoad1 lo0) wL0) <|
  rG lo2 false wL0 (rO (oFieldAddr 0 rd2) wL0) <|
  rG lo3 false wL0 (rO (oLoad1 lo0) wL0) <|
  rG lo4 false wL0 (rO (oFieldAddr 0 rd7) wL0) <|
  rG lo5 false wL0 (rO (oLoad1 lo0) wL0) <|
  rG lo6 false wL0 (rO (oIndexAddrV 3 lo2 lo0) wL0) <|
  rG lo7 false wL0 (rO (oFieldAddr 2 lo0) wL0) <|
  rG lo8 false wL0 (rO (oLoad1 lo0) wL0) <|
  rG lo9 false wL0 (rO (oLenV lo0) wL0) <|
  rG lo10 false wL0 (rO (oI ibGeq lo8 lo0) wL0) <|
  rO (oPick lo11 (rdC (.bool true)) lo0) w48 <|
  rSkip) (rCond rd48 (rSeq (rO (oMove (rdC (.int 3 (.ofNat 1)))) w4 <|
  rSkip) rRet) rSkip)) (rSeq (rSeq (rO (oFieldAddr 2 rd7) wL0 <|
  rO (oLoad1 lo0) wL0 <|
  rO (oLenV lo0) wL0 <|
  rO (oFieldAddr 0 rd2) wL0 <|
  rO (oLoad1 lo0) wL0 <|
  rO (oFieldAddr 0 rd7) wL0 <|
  rO (oLoad1 lo0) wL0 <|
  rO (oIndexAddrV 3 lo2 lo0) wL0 <|
  rO (oFieldAddr 1 lo0) wL0 <|
  rO (oLoad1 lo0) wL0 <|
  rO (oI ibNeq lo7 lo0) w59 <|
  rSkip) (rCond rd59 (rSeq (rO (oMove (rdC (.int 3 (.ofNat 7)))) w4 <|
  rSkip) rRet) rSkip)) (rSeq (rSeq (rO (oFieldAddr 2 rd7) wL0 <|
  rO (oLoad1 lo0) w61 <|
  rO (oLenV rd61) w62 <|
  rO (oMove (rdC (.int 3 (.ofNat 0)))) w63 <|
  rSkip) (rBlock 2 (rLoop (rSeq (rO (oI ibLss rd63 rd62) w64 <|
  rSkip) (rSeq (rCond rd64 rSkip (rExit 2)) (rSeq (rBlock 3 (rSeq (rO (oIndexAddrV 2 rd61 rd63) wL0 <|
  rO (oLoadN 2 lo0) wL0 <|
  rO (oAlloc (mkCells [(.oth 1 0 [] []), (.int 3 (.ofNat 0))])) w9 <|
  rO (oStoreN 2 rd9 lo0) wN <|
  rSkip) (rSeq (rO (oLoadN 2 rd9) wL0 <|
  rCall 247 [lo0] wL0 <|
  rO (oMove lo0) w10 <|
  rSkip) (rSeq (rO (oMove rd10) wL0 <|
  rO (oI ibNeq lo0 (rdC (.int 3 (.ofNat 0)))) w70 <|
  rSkip) (rCond rd70 (rSeq (rO (oMove rd10) wL0 <|
  rO (oMove lo0) w4 <|
  rSkip) rRet) rSkip))))) (rO (oI ibAdd rd63 (rdC (.int 3 (.ofNat 1)))) wL0 <|
  rO (oMove lo0) w63 <|
  rSkip))))))) (rSeq (rO (oFieldAddr 3 rd7) wL0 <|
  rO (oLoad1 lo0) wL0 <|
  rO (oMove lo0) wL0 <|
  rG lo0 true wL0 (rO (oMove rd5) wL0) <|
  rG lo1 true wL0 (rO (oFieldAddr 4 rd7) wL0) <|
  rG lo2 true wL0 (rO (oLoad1 lo0) wL0) <|
  rG lo3 true wL0 (rCallV lo2 [lo0] wL0) <|
  rG lo4 true wL0 (rO (oNot lo0) wL0) <|
  rO (oPick lo5 lo0 (rdC (.bool false))) w81 <|
  rSkip) (rCond rd81 (rSeq (rO (oMove (rdC (.int 3 (.ofNat 1)))) w4 <|
  rSkip) rRet) rSkip))))))) (rO (oI ibAdd rd16 (rdC (.int 3 (.ofNat 1)))) wL0 <|
  rO (oMove lo0) w16 <|
  rSkip))))))) (rSeq (rO (oMove (rdC (.int 3 (.ofNat 0)))) w4 <|
  rSkip) rRet))))
def d183 : DF := .mk [w0, w1] (resT rd4 resNil) c183
def c184 : Run :=
  (rSeq (rO (oBox rd0) w2 <|
  rO (oBox rd1) w3 <|
  rO (oMove (rdC (.int 3 (.ofNat 0)))) w4 <|
  rSkip) (rSeq (rO (oLoadN 5 rd3) wL0 <|
  rCall 244 [lo0] wL0 <|
  rO (oMove lo0) w5 <|
  rSkip) (rSeq (rSeq (rO (oFieldAddr 2 rd3) wL0 <|
  rO (oLoad1 lo0) w12 <|
  rO (oLenV rd12) w13 <|
  rO (oMove (rdC (.int 3 (.ofNat 0)))) w14 <|
  rSkip) (rBlock 0 (rLoop (rSeq (rO (oI ibLss rd14 rd13) w15 <|
  rSkip) (rSeq (rCond rd15 rSkip (rExit 0)) (rSeq (rBlock 1 (rSeq (rO (oIndexAddrV 3 rd12 rd14) wL0 <|
  rO (oLoadN 3 lo0) wL0 <|
  rO (oAlloc (mkCells [(.int 3 (.ofNat 0)), (.int 3 (.ofNat 0)), (.oth 1 0 [] [])])) w7 <|
  rO (oStoreN 3 rd7 lo0) wN <|
  rSkip) (rSeq (rSeq (rO (oFieldAddr 0 rd7) wL0 <|
  rO (oLoad1 lo0) wL0 <|
  rO (oI ibLss lo0 (rdC (.int 3 (.ofNat 0)))) wL0 <|
  rO (oMove lo0) wL0 <|
  rG lo0 false wL0 (rO (oFieldAddr 0 rd7) wL0) <|
  rG lo1 false wL0 (rO (oLoad1 lo0) wL0) <|
  rG lo2 false wL0 (rO (oFieldAddr 1 rd3) wL0) <|
  rG lo3 false wL0 (rO (oLoad1 lo0) wL0) <|
  rG lo4 false wL0 (rO (oLenV lo0) wL0) <|
  rG lo5 false wL0 (rO (oI ibGeq lo3 lo0) wL0) <|
  rO (oPick lo6 (rdC (.bool true)) lo0) w28 <|
  rSkip) (rCond rd28 (rSeq (rO (oMove (rdC (.int 3 (.ofNat 1)))) w4 <|
  rSkip) rRet) rSkip)) (rSeq (rO (oFieldAddr 1 rd3) wL0 <|
  rO (oLoad1 lo0) wL0 <|
  rO (oFieldAddr 0 rd7) wL0 <|
  rO (oLoad1 lo0) wL0 <|
  rO (oIndexAddrV 5 lo2 lo0) wL0 <|
  rO (oLoadN 5 lo0) wL0 <|
  rO (oAlloc (mkCells [(.int 3 (.ofNat 0)), (.int 3 (.ofNat 0)), (.oth 1 0 [] []), (.bool false), (.int 3 (.ofNat 0))])) w8 <|
  rO (oStoreN 5 rd8 lo0) wN <|
  rSkip) (rBlock 2 (rSeq (rO (oFieldAddr 1 rd7) wL0 <|
  rO (oLoad1 lo0) wL0 <|
  rO (oI ibLss lo0 (rdC (.int 3 (.ofNat 0)))) wL0 <|
  rO (oMove lo0) wL0 <|
  rG lo0 false wL0 (rO (oFieldAddr 1 rd7) wL0) <|
  rG lo1 false wL0 (rO (oLoad1 lo0) wL0) <|
  rG lo2 false wL0 (rO (oFieldAddr 0 rd2) wL0) <|
  rG lo3 false wL0 (rO (oLoad1 lo0) wL0) <|
  rG lo4 false wL0 (rO (oFieldAddr 0 rd8) wL0) <|
  rG lo5 false wL0 (rO (oLoad1 lo0) wL0) <|
  rG lo6 false wL0 (rO (oIndexAddrV 3 lo2 lo0) wL0) <|
  rG lo7 false wL0 (rO (oFieldAddr 2 lo0) wL0) <|
  rG lo8 false wL0 (rO (oLoad1 lo0) wL0) <|
  rG lo9 false wL0 (rO (oFieldAddr 1 rd8) wL0) <|
  rG lo10 false wL0 (rO (oLoad1 lo0) wL0) <|
  rG lo11 false wL0 (rO (oIndexAddrV 4 lo2 lo0) wL0) <|
  rG lo12 false wL0 (rO (oFieldAddr 2 lo0) wL0) <|
  rG lo13 false wL0 (rO (oLoad1 lo0) wL0) <|
  rG lo14 false wL0 (rO (oLenV lo0) wL0) <|
  rG lo15 false wL0 (rO (oI ibGtr lo13 lo0) wL0) <|
  rO (oPick lo16 (rdC (.bool true)) lo0) wL0 <|
  rO (oMove lo0) w35 <|
  rSkip) (rCond rd35 (rSeq (rO (oMove (rdC (.int 3 (.ofNat 3)))) w4 <|
  rSkip) rRet) (rSeq (rO (oFieldAddr 2 rd7) wL0 <|
  rO (oLoad1 lo0) wL0 <|
  rO (oLenV lo0) wL0 <|
  rO (oFieldAddr 1 rd7) wL0 <|
  rO (oLoad1 lo0) wL0 <|
  rO (oI ibNeq lo2 lo0) wL0 <|
  rO (oMove lo0) w57 <|
  rSkip) (rCond rd57 (rSeq (rO (oMove (rdC (.int 3 (.ofNat 7)))) w4 <|
  rSkip) rRet) (rSeq (rO (oFieldAddr 2 rd7) wL0 <|
  rO (oLoad1 lo0) wL0 <|
  rO (oMove rd5) wL0 <|
  rCall 246 [lo1, lo0] wL0 <|
  rO (oNot lo0) wL0 <|
  rO (oMove lo0) w64 <|
  rSkip) (rCond rd64 (rSeq (rO (oMove (rdC (.int 3 (.ofNat 1)))) w4 <|
  rSkip) rRet) rSkip))))))))))) (rO (oI ibAdd rd14 (rdC (.int 3 (.ofNat 1)))) wL0 <|
  rO (oMove lo0) w14 <|
  rSkip))))))) (rSeq (rO (oMove (rdC (.int 3 (.ofNat 0)))) w4 <|
  rSkip) rRet))))
def d184 : DF := .mk [w0, w1] (resT rd4 resNil) c184
def c185 : Run :=
  (rSeq (rO (oBox rd0) w2 <|
  rO (oBox rd1) w3 <|
  rO (oAlloc (mkCells [(.int 3 (.ofNat 0)), (.bool false), (.bool false), (.int 3 (.ofNat 0)), (.int 3 (.ofNat 0)), (.oth 1 0 [] []), (.bool false), (.int 3 (.ofNat 0))])) w4 <|
  rSkip) (rSeq (rO (oLoadN 5 rd2) wL0 <|
  rO (oLoadN 5 rd3) wL0 <|
  rO (oAlloc (mkCells [(.int 3 (.ofNat 0)), (.int 3 (.ofNat 0)), (.int 3 (.ofNat 0)), (.int 3 (.ofNat 0))])) w5 <|
  rO (oAlloc (mkCells [(.int 3 (.ofNat 0)), (.int 3 (.ofNat 0)), (.int 3 (.ofNat 0)), (.int 3 (.ofNat 0))])) w6 <|
  rCall 186 [lo1] wL0 <|
  rChkA (fun _ => [(.int 3 (.ofNat 0)), (.int 3 (.ofNat 0)), (.int 3 (.ofNat 0)), (.int 3 (.ofNat 0))]) rd6 <|
  rChkA (fun _ => [(.int 3 (.ofNat 0)), (.int 3 (.ofNat 0)), (.int 3 (.ofNat 0)), (.int 3 (.ofNat 0))]) rd5 <|
  rChk (oLoadN 5 rd3) lo1 <|
  rCall 186 [lo1] wL0 <|
  rChkA (fun _ => [(.int 3 (.ofNat 0)), (.int 3 (.ofNat 0)), (.int 3 (.ofNat 0)), (.int 3 (.ofNat 0))]) rd6 <|
  rChkA (fun _ => [(.int 3 (.ofNat 0)), (.int 3 (.ofNat 0)), (.int 3 (.ofNat 0)), (.int 3 (.ofNat 0))]) rd5 <|
  rO (oStoreN 4 rd5 lo1) wN <|
  rO (oStoreN 4 rd6 lo0) wN <|
  rSkip) (rSeq (rO (oFieldAddr 4 rd3) wL0 <|
  rO (oLoad1 lo0) wL0 <|
  rO (oBuild [(.int 3 (.ofNat 0)), (.bool false), (.bool false), (.int 3 (.ofNat 0)), (.int 3 (.ofNat 0)), (.oth 1 0 [] []), (.bool false), (.int 3 (.ofNat 0))] [(7, 1, lo0)]) wL0 <|
  rO (oAlloc (mkCells [(.int 3 (.ofNat 0)), (.bool false), (.bool false), (.int 3 (.ofNat 0)), (.int 3 (.ofNat 0)), (.oth 1 0 [] []), (.bool false), (.int 3 (.ofNat 0))])) w7 <|
  rO (oStoreN 8 rd7 lo0) wN <|
  rSkip) (rSeq (rBlock 0 (rSeq (rO (oLoadN 4 rd5) wL0 <|
  rO (oLoadN 4 rd6) wL0 <|
  rO (oAg 34953 true lo1 lo0) wL0 <|
  rO (oMove lo0) wL0 <|
  rG lo0 false wL0 (rO (oFieldAddr 4 rd3) wL0) <|
  rG lo1 false wL0 (rO (oLoad1 lo0) wL0) <|
  rG lo2 false wL0 (rO (oI ibNeq lo0 (rdC (.int 3 (.ofNat 0)))) wL0) <|
  rO (oPick lo3 (rdC (.bool true)) lo0) wL0 <|
  rO (oMove lo0) w16 <|
  rSkip) (rCond rd16 (rSeq (rO (oLoadN 8 rd7) wL0 <|
  rO (oStoreN 8 rd4 lo0) wN <|
  rSkip) rRet) (rSeq (rO (oIndexAddrA 4 1 rd6 (rdC (.int 3 (.ofNat 2)))) wL0 <|
  rO (oLoad1 lo0) wL0 <|
  rO (oIndexAddrA 4 1 rd5 (rdC (.int 3 (.ofNat 2)))) wL0 <|
  rO (oLoad1 lo0) wL0 <|
  rO (oI ibLss lo2 lo0) wL0 <|
  rO (oMove lo0) w26 <|
  rSkip) (rCond rd26 (rO (oFieldAddr 2 rd2) wL0 <|
  rO (oLoad1 lo0) wL0 <|
  rO (oIndexAddrA 4 1 rd5 (rdC (.int 3 (.ofNat 2)))) wL0 <|
  rO (oLoad1 lo0) wL0 <|
  rO (oI ibSub lo0 (rdC (.int 3 (.ofNat 1)))) wL0 <|
  rO (oIndexAddrV 3 lo3 lo0) wL0 <|
  rO (oLoadN 3 lo0) wL0 <|
  rCall 99 [lo0] wL0 <|
  rO (oFieldAddr 2 rd7) wL0 <|
  rO (oStore1 lo0 (rdC (.bool true))) wN <|
  rO (oFieldAddr 3 rd7) wL0 <|
  rO (oStoreN 3 lo0 lo2) wN <|
  rSkip) (rSeq (rO (oIndexAddrA 4 1 rd6 (rdC (.int 3 (.ofNat 1)))) wL0 <|
  rO (oLoad1 lo0) wL0 <|
  rO (oIndexAddrA 4 1 rd5 (rdC (.int 3 (.ofNat 1)))) wL0 <|
  rO (oLoad1 lo0) wL0 <|
  rO (oI ibGtr lo2 lo0) wL0 <|
  rO (oMove lo0) w42 <|
  rSkip) (rCond rd42 (rO (oFieldAddr 1 rd7) wL0 <|
  rO (oStore1 lo0 (rdC (.bool true))) wN <|
  rSkip) (rO (oFieldAddr 6 rd7) wL0 <|
  rO (oStore1 lo0 (rdC (.bool true))) wN <|
  rSkip)))))))) (rSeq (rO (oIndexAddrA 4 1 rd6 (rdC (.int 3 (.ofNat 0)))) wL0 <|
  rO (oLoad1 lo0) wL0 <|
  rO (oIndexAddrA 4 1 rd5 (rdC (.int 3 (.ofNat 0)))) wL0 <|
  rO (oLoad1 lo0) wL0 <|
  rO (oI ibSub lo2 lo0) wL0 <|
  rO (oFieldAddr 0 rd7) wL0 <|
  rO (oStore1 lo0 lo1) wN <|
  rSkip) (rSeq (rO (oLoadN 8 rd7) wL0 <|
  rO (oStoreN 8 rd4 lo0) wN <|
  rSkip) rRet))))))
def d185 : DF := .mk [w0, w1] (resN 8 rd4 resNil) c185
def c186 : Run :=
  (rSeq (rO (oBox rd0) w1 <|
  rO (oAlloc (mkCells [(.int 3 (.ofNat 0)), (.int 3 (.ofNat 0)), (.int 3 (.ofNat 0)), (.int 3 (.ofNat 0))])) w2 <|
  rSkip) (rSeq (rO (oFieldAddr 0 rd1) wL0 <|
  rO (oLoad1 lo0) wL0 <|
  rO (oLenV lo0) wL0 <|
  rO (oFieldAddr 1 rd1) wL0 <|
  rO (oLoad1 lo0) wL0 <|
  rO (oLenV lo0) wL0 <|
  rO (oFieldAddr 2 rd1) wL0 <|
  rO (oLoad1 lo0) wL0 <|
  rO (oLenV lo0) wL0 <|
  rO (oBuild [(.int 3 (.ofNat 0)), (.int 3 (.ofNat 0)), (.int 3 (.ofNat 0)), (.int 3 (.ofNat 0))] [(0, 1, lo6), (1, 1, lo3), (2, 1, lo0)]) wL0 <|
  rO (oAlloc (mkCells [(.int 3 (.ofNat 0)), (.int 3 (.ofNat 0)), (.int 3 (.ofNat 0)), (.int 3 (.ofNat 0))])) w3 <|
  rO (oStoreN 4 rd3 lo0) wN <|
  rSkip) (rSeq (rSeq (rO (oFieldAddr 2 rd1) wL0 <|
  rO (oLoad1 lo0) wL0 <|
  rO (oLenV lo0) wL0 <|
  rO (oMove lo0) w4 <|
  rSkip) (rSeq (rO (oMove rd4) wL0 <|
  rO (oI ibGtr lo0 (rdC (.int 3 (.ofNat 0)))) w19 <|
  rSkip) (rCond rd19 (rO (oFieldAddr 2 rd1) wL0 <|
  rO (oLoad1 lo0) wL0 <|
  rO (oMove rd4) wL0 <|
  rO (oI ibSub lo0 (rdC (.int 3 (.ofNat 1)))) wL0 <|
  rO (oIndexAddrV 3 lo2 lo0) wL0 <|
  rO (oFieldAddr 2 lo0) wL0 <|
  rO (oLoad1 lo0) wL0 <|
  rO (oLenV lo0) wL0 <|
  rO (oIndexAddrA 4 1 rd3 (rdC (.int 3 (.ofNat 3)))) wL0 <|
  rO (oStore1 lo0 lo1) wN <|
  rSkip) rSkip))) (rSeq (rO (oLoadN 4 rd3) wL0 <|
  rO (oStoreN 4 rd2 lo0) wN <|
  rSkip) rRet))))
def d186 : DF := .mk [w0] (resN 4 rd2 resNil) c186
def c187 : Run :=
  (rSeq (rO (oMove (rdC (.oth 1 0 [] []))) w2 <|
  rSkip) (rSeq (rSeq (rO (oMove rd0) wL0 <|
  rO (oSlNil true lo0) w4 <|
  rSkip) (rCond rd4 (rSeq (rO (oMove (rdC (.oth 1 0 [] []))) w2 <|
  rSkip) rRet) rSkip)) (rSeq (rO (oBuildSlice 0 [] []) wL0 <|
  rO (oMove rd0) wL0 <|
  rO (oAppend 2 lo1 lo0) wL0 <|
  rO (oMove lo0) w2 <|
  rSkip) rRet)))
def d187 : DF := .mk [w0] (resT rd2 resNil) c187
def c188 : Run :=
  (rSeq (rO (oMove (rdC (.oth 1 0 [] []))) w2 <|
  rSkip) (rSeq (rSeq (rO (oMove rd0) wL0 <|
  rO (oSlNil true lo0) w4 <|
  rSkip) (rCond rd4 (rSeq (rO (oMove (rdC (.oth 1 0 [] []))) w2 <|
  rSkip) rRet) rSkip)) (rSeq (rO (oBuildSlice 0 [] []) wL0 <|
  rO (oMove rd0) wL0 <|
  rO (oAppend 5 lo1 lo0) wL0 <|
  rO (oMove lo0) w2 <|
  rSkip) rRet)))
def d188 : DF := .mk [w0] (resT rd2 resNil) c188
def c189 : Run :=
  (rSeq (rO (oMove (rdC (.oth 1 0 [] []))) w2 <|
  rSkip) (rSeq (rSeq (rO (oMove rd0) wL0 <|
  rO (oSlNil true lo0) w4 <|
  rSkip) (rCond rd4 (rSeq (rO (oMove (rdC (.oth 1 0 [] []))) w2 <|
  rSkip) rRet) rSkip)) (rSeq (rO (oBuildSlice 0 [] []) wL0 <|
  rO (oMove rd0) wL0 <|
  rO (oAppend 3 lo1 lo0) wL0 <|
  rO (oMove lo0) w2 <|
  rSkip) rRet)))
def d189 : DF := .mk [w0] (resT rd2 resNil) c189
def c190 : Run :=
  (rSeq (rO (oMove (rdC (.oth 1 0 [] []))) w2 <|
  rSkip) (rSeq (rSeq (rO (oMove rd0) wL0 <|
  rO (oSlNil true lo0) w4 <|
  rSkip) (rCond rd4 (rSeq (rO (oMove (rdC (.oth 1 0 [] []))) w2 <|
  rSkip) rRet) rSkip)) (rSeq (rO (oBuildSlice 0 [] []) wL0 <|
  rO (oMove rd0) wL0 <|
  rO (oAppend 2 lo1 lo0) wL0 <|
  rO (oMove lo0) w2 <|
  rSkip) rRet)))
def d190 : DF := .mk [w0] (resT rd2 resNil) c190
def c192 : Run :=
  (rSeq (rO (oBox rd0) w2 <|
  rO (oAlloc (mkCells [(.int 3 (.ofNat 0)), (.int 3 (.ofNat 0)), (.int 3 (.ofNat 0)), (.int 3 (.ofNat 0))])) w4 <|
  rSkip) (rSeq (rO (oLoadN 14 rd2) wL0 <|
  rCall 127 [lo0] wL0 <|
  rO (oAlloc (mkCells [(.int 3 (.ofNat 0)), (.int 3 (.ofNat 0)), (.oth 1 0 [] [])])) w5 <|
  rO (oStoreN 3 rd5 lo0) wN <|
  rSkip) (rSeq (rO (oMove rd1) wL0 <|
  rO (oFieldAddr 0 rd5) wL0 <|
  rO (oLoad1 lo0) wL0 <|
  rO (oBuild [(.int 3 (.ofNat 0)), (.int 3 (.ofNat 0)), (.int 3 (.ofNat 0)), (.int 3 (.ofNat 0))] [(0, 1, lo2), (2, 1, lo0)]) wL0 <|
  rO (oAlloc (mkCells [(.int 3 (.ofNat 0)), (.int 3 (.ofNat 0)), (.int 3 (.ofNat 0)), (.int 3 (.ofNat 0))])) w6 <|
  rO (oStoreN 4 rd6 lo0) wN <|
  rSkip) (rSeq (rBlock 0 (rSeq (rO (oFieldAddr 5 rd2) wL0 <|
  rO (oFieldAddr 7 lo0) wL0 <|
  rO (oLoad1 lo0) wL0 <|
  rO (oI ibNeq lo0 (rdC (.int 3 (.ofNat 0)))) wL0 <|
  rO (oMove lo0) w32 <|
  rSkip) (rCond rd32 (rO (oFieldAddr 1 rd6) wL0 <|
  rO (oStore1 lo0 (rdC (.int 3 (.ofNat 7)))) wN <|
  rO (oFieldAddr 3 rd6) wL0 <|
  rO (oStore1 lo0 (rdC (.int 3 (.negSucc 0)))) wN <|
  rSkip) (rSeq (rO (oFieldAddr 5 rd2) wL0 <|
  rO (oFieldAddr 2 lo0) wL0 <|
  rO (oLoad1 lo0) wL0 <|
  rO (oMove lo0) w39 <|
  rSkip) (rCond rd39 (rO (oFieldAddr 0 rd5) wL0 <|
  rO (oLoad1 lo0) wL0 <|
  rO (oFieldAddr 1 rd6) wL0 <|
  rO (oStore1 lo0 (rdC (.int 3 (.ofNat 6)))) wN <|
  rChk (oLoad1 lo2) lo1 <|
  rO (oFieldAddr 3 rd6) wL0 <|
  rO (oStore1 lo0 lo2) wN <|
  rSkip) (rSeq (rO (oFieldAddr 5 rd2) wL0 <|
  rO (oFieldAddr 1 lo0) wL0 <|
  rO (oLoad1 lo0) wL0 <|
  rO (oMove lo0) w47 <|
  rSkip) (rCond rd47 (rO (oFieldAddr 0 rd2) wL0 <|
  rO (oFieldAddr 1 lo0) wL0 <|
  rO (oLoad1 lo0) wL0 <|
  rO (oLenV lo0) wL0 <|
  rO (oFieldAddr 1 rd6) wL0 <|
  rO (oStore1 lo0 (rdC (.int 3 (.ofNat 3)))) wN <|
  rChk (oLenV lo2) lo1 <|
  rChk (oLoad1 lo3) lo2 <|
  rO (oFieldAddr 3 rd6) wL0 <|
  rO (oStore1 lo0 lo2) wN <|
  rSkip) (rSeq (rO (oLoadN 14 rd2) wL0 <|
  rO (oFieldAddr 1 rd5) wL0 <|
  rO (oLoad1 lo0) wL0 <|
  rO (oAlloc (mkCells [(.int 3 (.ofNat 0)), (.oth 6 0 [] [])])) w7 <|
  rCall 198 [lo2] wL0 <|
  rChkA (fun _ => [(.int 3 (.ofNat 0)), (.oth 6 0 [] [])]) rd7 <|
  rChk (oLoad1 lo2) lo1 <|
  rO (oField1 2 lo0) wL0 <|
  rO (oIndexAddrV 4 lo0 lo2) wL0 <|
  rO (oFieldAddr 0 lo0) wL0 <|
  rO (oLoad1 lo0) wL0 <|
  rO (oIndexAddrA 6 2 (rdC (.ptr 1 0)) lo0) wL0 <|
  rO (oLoadN 2 lo0) wL0 <|
  rO (oStoreN 2 rd7 lo0) wN <|
  rSkip) (rO (oFieldAddr 0 rd7) wL0 <|
  rO (oLoad1 lo0) wL0 <|
  rO (oFieldAddr 1 rd7) wL0 <|
  rO (oLoad1 lo0) wL0 <|
  rO (oLoadN 14 rd2) wL0 <|
  rO (oFieldAddr 1 rd6) wL0 <|
  rCallV lo2 [lo1] wL0 <|
  rChk (oLoad1 lo6) lo5 <|
  rO (oStore1 lo1 lo5) wN <|
  rO (oFieldAddr 3 rd6) wL0 <|
  rO (oStore1 lo0 lo1) wN <|
  rSkip))))))))) (rSeq (rO (oLoadN 4 rd6) wL0 <|
  rO (oStoreN 4 rd4 lo0) wN <|
  rSkip) rRet)))))
def d192 : DF := .mk [w0, w1] (resN 4 rd4 resNil) c192
def c193 : Run :=
  (rSeq (rO (oMove (rdC (.int 3 (.ofNat 0)))) w4 <|
  rSkip) (rSeq (rSeq (rO (oMove rd0) wL0 <|
  rO (oLenV lo0) w7 <|
  rO (oMove (rdC (.int 3 (.ofNat 0)))) w8 <|
  rSkip) (rBlock 0 (rLoop (rSeq (rO (oI ibLss rd8 rd7) w9 <|
  rSkip) (rSeq (rCond rd9 rSkip (rExit 0)) (rSeq (rBlock 1 (rSeq (rO (oMove rd8) wL0 <|
  rO (oMove lo0) w5 <|
  rSkip) (rSeq (rO (oMove rd1) wL0 <|
  rO (oMove rd0) wL0 <|
  rO (oMove rd5) wL0 <|
  rO (oIndexAddrV 4 lo1 lo0) wL0 <|
  rO (oLoadN 4 lo0) wL0 <|
  rCallV lo4 [lo0] w16 <|
  rSkip) (rCond rd16 (rSeq (rO (oMove rd5) wL0 <|
  rO (oMove lo0) w4 <|
  rSkip) rRet) rSkip)))) (rO (oI ibAdd rd8 (rdC (.int 3 (.ofNat 1)))) wL0 <|
  rO (oMove lo0) w8 <|
  rSkip))))))) (rSeq (rO (oMove (rdC (.int 3 (.negSucc 0)))) w4 <|
  rSkip) rRet)))
def d193 : DF := .mk [w0, w1] (resT rd4 resNil) c193
def c194 : Run :=
  (rSeq (rO (oFieldAddr 6 rd1) wL0 <|
  rO (oLoad1 lo0) wL0 <|
  rO (oLenV lo0) wL0 <|
  rO (oMkSlice [(.oth 1 0 [] []), (.oth 1 0 [] []), (.oth 1 0 [] []), (.int 3 (.ofNat 0)), (.int 3 (.ofNat 0)), (.int 3 (.ofNat 0)), (.bool false), (.bool false), (.int 3 (.ofNat 0)), (.int 3 (.ofNat 0)), (.oth 1 0 [] []), (.bool false), (.int 3 (.ofNat 0)), (.oth 1 0 [] [])] lo0 lo0) wL0 <|
  rO (oMove lo0) w3 <|
  rSkip) (rSeq (rO (oFieldAddr 1 rd1) wL0 <|
  rO (oLoadN 5 lo0) wL0 <|
  rO (oAlloc (mkCells [(.oth 1 0 [] []), (.oth 1 0 [] []), (.oth 1 0 [] []), (.int 3 (.ofNat 0)), (.int 3 (.ofNat 0))])) w4 <|
  rO (oStoreN 5 rd4 lo0) wN <|
  rSkip) (rSeq (rSeq (rO (oFieldAddr 6 rd1) wL0 <|
  rO (oLoad1 lo0) wL0 <|
  rO (oLenV lo0) wL0 <|
  rO (oI ibSub lo0 (rdC (.int 3 (.ofNat 1)))) wL0 <|
  rO (oMove lo0) w5 <|
  rSkip) (rBlock 0 (rLoop (rSeq (rSeq (rO (oMove rd5) wL0 <|
  rO (oI ibGeq lo0 (rdC (.int 3 (.ofNat 0)))) w19 <|
  rSkip) (rCond rd19 rSkip (rExit 0))) (rSeq (rBlock 1 (rSeq (rO (oLoadN 5 rd4) wL0 <|
  rO (oFieldAddr 6 rd1) wL0 <|
  rO (oLoad1 lo0) wL0 <|
  rO (oMove rd5) wL0 <|
  rO (oIndexAddrV 8 lo1 lo0) wL0 <|
  rO (oLoadN 8 lo0) wL0 <|
  rCall 22 [lo5, lo0] wL0 <|
  rO (oMove lo0) wL0 <|
  rO (oExtract 0 lo0) wL0 <|
  rO (oExtract 1 lo1) wL0 <|
  rO (oStoreN 5 rd4 lo1) wN <|
  rSkip) (rO (oMove rd3) wL0 <|
  rO (oMove rd5) wL0 <|
  rO (oLoadN 5 rd4) wL0 <|
  rO (oFieldAddr 6 rd1) wL0 <|
  rO (oLoad1 lo0) wL0 <|
  rO (oMove rd5) wL0 <|
  rO (oIndexAddrV 8 lo1 lo0) wL0 <|
  rO (oLoadN 8 lo0) wL0 <|
  rO (oFieldAddr 0 rd1) wL0 <|
  rO (oLoadN 1 lo0) wL0 <|
  rO (oBuild [(.oth 1 0 [] []), (.oth 1 0 [] []), (.oth 1 0 [] []), (.int 3 (.ofNat 0)), (.int 3 (.ofNat 0)), (.int 3 (.ofNat 0)), (.bool false), (.bool false), (.int 3 (.ofNat 0)), (.int 3 (.ofNat 0)), (.oth 1 0 [] []), (.bool false), (.int 3 (.ofNat 0)), (.oth 1 0 [] [])] [(0, 5, lo7), (5, 8, lo2), (13, 1, lo0)]) wL0 <|
  rO (oIndexAddrV 14 lo10 lo9) wL0 <|
  rO (oStoreN 14 lo0 lo1) wN <|
  rSkip))) (rO (oMove rd5) wL0 <|
  rO (oI ibSub lo0 (rdC (.int 3 (.ofNat 1)))) wL0 <|
  rO (oMove lo0) w5 <|
  rSkip)))))) (rSeq (rO (oMove rd3) w44 <|
  rO (oLenV rd44) w45 <|
  rO (oMove (rdC (.int 3 (.ofNat 0)))) w46 <|
  rSkip) (rBlock 2 (rLoop (rSeq (rO (oI ibLss rd46 rd45) w47 <|
  rSkip) (rSeq (rCond rd47 rSkip (rExit 2)) (rSeq (rBlock 3 (rSeq (rO (oMove rd46) wL0 <|
  rO (oIndexAddrV 14 rd44 rd46) wL0 <|
  rO (oLoadN 14 lo0) wL0 <|
  rO (oAlloc (mkCells [(.oth 1 0 [] []), (.oth 1 0 [] []), (.oth 1 0 [] []), (.int 3 (.ofNat 0)), (.int 3 (.ofNat 0)), (.int 3 (.ofNat 0)), (.bool false), (.bool false), (.int 3 (.ofNat 0)), (.int 3 (.ofNat 0)), (.oth 1 0 [] []), (.bool false), (.int 3 (.ofNat 0)), (.oth 1 0 [] [])])) w7 <|
  rO (oMove lo2) w6 <|
  rO (oStoreN 14 rd7 lo0) wN <|
  rSkip) (rSeq (rO (oMove rd0) wL0 <|
  rO (oMove rd6) wL0 <|
  rO (oI ibAdd lo0 (rdC (.int 3 (.ofNat 1)))) wL0 <|
  rO (oLoadN 14 rd7) wL0 <|
  rCallV lo3 [lo1, lo0] wL0 <|
  rO (oNot lo0) w56 <|
  rSkip) (rCond rd56 rRet rSkip)))) (rO (oI ibAdd rd46 (rdC (.int 3 (.ofNat 1)))) wL0 <|
  rO (oMove lo0) w46 <|
  rSkip))))))))))
def d194 : DF := .mk [w0, w1] resNil c194
def c198 : Run :=
  (rSeq (rO (oBox rd0) w1 <|
  rO (oAlloc (mkCells [(.str 0 0), (.int 3 (.ofNat 0)), (.oth 1 0 [] []), (.int 3 (.ofNat 0))])) w2 <|
  rSkip) (rSeq (rO (oFieldAddr 0 rd1) wL0 <|
  rO (oFieldAddr 1 lo0) wL0 <|
  rO (oLoad1 lo0) wL0 <|
  rO (oLoadN 14 rd1) wL0 <|
  rO (oAlloc (mkCells [(.int 3 (.ofNat 0)), (.int 3 (.ofNat 0)), (.oth 1 0 [] []), (.bool false), (.int 3 (.ofNat 0))])) w3 <|
  rCall 127 [lo0] wL0 <|
  rChkA (fun _ => [(.int 3 (.ofNat 0)), (.int 3 (.ofNat 0)), (.oth 1 0 [] []), (.bool false), (.int 3 (.ofNat 0))]) rd3 <|
  rChk (oLoad1 lo3) lo2 <|
  rO (oField1 0 lo0) wL0 <|
  rO (oIndexAddrV 5 lo3 lo0) wL0 <|
  rO (oLoadN 5 lo0) wL0 <|
  rO (oStoreN 5 rd3 lo0) wN <|
  rSkip) (rSeq (rO (oFieldAddr 13 rd1) wL0 <|
  rO (oFieldAddr 0 lo0) wL0 <|
  rO (oLoad1 lo0) wL0 <|
  rO (oFieldAddr 0 rd3) wL0 <|
  rO (oLoad1 lo0) wL0 <|
  rO (oIndexAddrV 3 lo2 lo0) wL0 <|
  rO (oFieldAddr 2 lo0) wL0 <|
  rO (oLoad1 lo0) wL0 <|
  rO (oFieldAddr 1 rd3) wL0 <|
  rO (oLoad1 lo0) wL0 <|
  rO (oIndexAddrV 4 lo2 lo0) wL0 <|
  rO (oLoadN 4 lo0) wL0 <|
  rO (oStoreN 4 rd2 lo0) wN <|
  rSkip) rRet)))
def d198 : DF := .mk [w0] (resN 4 rd2 resNil) c198
def c199 : Run :=
  (rSeq (rO (oMove (rdC (.int 3 (.ofNat 0)))) w2 <|
  rSkip) (rSeq (rSeq (rO (oMove rd0) wL0 <|
  rO (oI ibGeq lo0 (rdC (.int 3 (.ofNat 0)))) w4 <|
  rSkip) (rCond rd4 (rSeq (rO (oMove (rdC (.int 3 (.negSucc 0)))) w2 <|
  rSkip) rRet) rSkip)) (rSeq (rO (oMove rd0) wL0 <|
  rO (oNeg lo0) wL0 <|
  rO (oI ibSub lo0 (rdC (.int 3 (.ofNat 1)))) wL0 <|
  rO (oMove lo0) w2 <|
  rSkip) rRet)))
def d199 : DF := .mk [w0] (resT rd2 resNil) c199
def c200 : Run :=
  (rSeq (rO (oMove (rdC (.bool false))) w4 <|
  rSkip) (rSeq (rO (oMove rd0) wL0 <|
  rO (oMove rd1) wL0 <|
  rCall 249 [lo1, lo0] wL0 <|
  rO (oI ibGeq lo0 (rdC (.int 3 (.ofNat 0)))) wL0 <|
  rO (oMove lo0) w4 <|
  rSkip) rRet))
def d200 : DF := .mk [w0, w1] (resT rd4 resNil) c200
def c201 : Run :=
  (rSeq (rO (oMove (rdC (.bool false))) w3 <|
  rSkip) (rSeq (rO (oMove rd0) wL0 <|
  rO (oLoad1 rd1) wL0 <|
  rO (oIndexAddrV 1 lo0 (rdC (.int 3 (.ofNat 0)))) wL0 <|
  rO (oLoad1 lo0) wL0 <|
  rO (oI ibNeq lo3 lo0) wL0 <|
  rO (oMove lo0) w3 <|
  rSkip) rRet))
def d201 : DF := .mk [w0, w1] (resT rd3 resNil) c201
def c202 : Run :=
  (rSeq (rO (oBox rd0) w4 <|
  rO (oMove (rdC (.bool false))) w5 <|
  rSkip) (rSeq (rSeq (rO (oFieldAddr 13 rd1) wL0 <|
  rO (oFieldAddr 0 lo0) wL0 <|
  rO (oLoad1 lo0) wL0 <|
  rO (oFieldAddr 0 rd4) wL0 <|
  rO (oLoad1 lo0) wL0 <|
  rO (oIndexAddrV 3 lo2 lo0) wL0 <|
  rO (oFieldAddr 0 lo0) wL0 <|
  rO (oLoad1 lo0) wL0 <|
  rO (oFieldAddr 1 rd2) wL0 <|
  rO (oLoad1 lo0) wL0 <|
  rO (oS sbNeq lo2 lo0) w18 <|
  rSkip) (rCond rd18 (rSeq (rO (oMove (rdC (.bool false))) w5 <|
  rSkip) rRet) rSkip)) (rSeq (rSeq (rO (oFieldAddr 2 rd4) wL0 <|
  rO (oLoad1 lo0) w20 <|
  rO (oLenV rd20) w21 <|
  rO (oMove (rdC (.int 3 (.ofNat 0)))) w22 <|
  rSkip) (rBlock 0 (rLoop (rSeq (rO (oI ibLss rd22 rd21) w23 <|
  rSkip) (rSeq (rCond rd23 rSkip (rExit 0)) (rSeq (rBlock 1 (rSeq (rO (oMove rd22) wL0 <|
  rO (oIndexAddrV 2 rd20 rd22) wL0 <|
  rO (oLoadN 2 lo0) wL0 <|
  rO (oAlloc (mkCells [(.oth 1 0 [] []), (.int 3 (.ofNat 0))])) w7 <|
  rO (oMove lo2) w6 <|
  rO (oStoreN 2 rd7 lo0) wN <|
  rSkip) (rSeq (rO (oLoadN 14 rd1) wL0 <|
  rO (oLoadN 2 rd7) wL0 <|
  rO (oFieldAddr 2 rd3) wL0 <|
  rO (oLoad1 lo0) wL0 <|
  rO (oFieldAddr 3 rd2) wL0 <|
  rO (oLoad1 lo0) wL0 <|
  rO (oMove rd6) wL0 <|
  rO (oIndexAddrV 1 lo1 lo0) wL0 <|
  rO (oLoad1 lo0) wL0 <|
  rO (oIndexAddrV 1 lo5 lo0) wL0 <|
  rO (oLoad1 lo0) wL0 <|
  rCall 203 [lo10, lo9, lo0] wL0 <|
  rO (oNot lo0) w39 <|
  rSkip) (rCond rd39 (rSeq (rO (oMove (rdC (.bool false))) w5 <|
  rSkip) rRet) rSkip)))) (rO (oI ibAdd rd22 (rdC (.int 3 (.ofNat 1)))) wL0 <|
  rO (oMove lo0) w22 <|
  rSkip))))))) (rSeq (rO (oMove (rdC (.bool true))) w5 <|
  rSkip) rRet))))
def d202 : DF := .mk [w0, w1, w2, w3] (resT rd5 resNil) c202
def c203 : Run :=
  (rSeq (rO (oBox rd0) w3 <|
  rO (oBox rd1) w4 <|
  rO (oMove (rdC (.bool false))) w6 <|
  rSkip) (rSeq (rO (oMkMap 137) wL0 <|
  rO (oAlloc (mkCells [(.oth 3 0 [] [])])) w7 <|
  rO (oStore1 rd7 lo0) wN <|
  rSkip) (rSeq (rO (oAlloc (mkCells [(.oth 6 0 [] [])])) w8 <|
  rSkip) (rSeq (rO (oMkFn 250 [] [rd3, rd7, rd4, rd8]) wL0 <|
  rO (oStore1 rd8 lo0) wN <|
  rSkip) (rSeq (rO (oLoad1 rd8) wL0 <|
  rO (oFieldAddr 1 rd4) wL0 <|
  rO (oLoad1 lo0) wL0 <|
  rO (oMove rd2) wL0 <|
  rCallV lo3 [lo1, lo0] wL0 <|
  rO (oMove lo0) w6 <|
  rSkip) rRet)))))
def d203 : DF := .mk [w0, w1, w2] (resT rd6 resNil) c203
def c204 : Run :=
  (rSeq (rO (oMove (rdC (.int 3 (.ofNat 0)))) w4 <|
  rSkip) (rSeq (rSeq (rO (oMove rd0) wL0 <|
  rO (oLenV lo0) w7 <|
  rO (oMove (rdC (.int 3 (.ofNat 0)))) w8 <|
  rSkip) (rBlock 0 (rLoop (rSeq (rO (oI ibLss rd8 rd7) w9 <|
  rSkip) (rSeq (rCond rd9 rSkip (rExit 0)) (rSeq (rBlock 1 (rSeq (rO (oMove rd8) wL0 <|
  rO (oMove lo0) w5 <|
  rSkip) (rSeq (rO (oMove rd1) wL0 <|
  rO (oMove rd0) wL0 <|
  rO (oMove rd5) wL0 <|
  rO (oIndexAddrV 1 lo1 lo0) wL0 <|
  rO (oLoad1 lo0) wL0 <|
  rO (oI ibEql lo4 lo0) w16 <|
  rSkip) (rCond rd16 (rSeq (rO (oMove rd5) wL0 <|
  rO (oMove lo0) w4 <|
  rSkip) rRet) rSkip)))) (rO (oI ibAdd rd8 (rdC (.int 3 (.ofNat 1)))) wL0 <|
  rO (oMove lo0) w8 <|
  rSkip))))))) (rSeq (rO (oMove (rdC (.int 3 (.negSucc 0)))) w4 <|
  rSkip) rRet)))
def d204 : DF := .mk [w0, w1] (resT rd4 resNil) c204
def c205 : Run :=
  (rSeq (rO (oMove rd0) wL0 <|
  rO (oLenV lo0) wL0 <|
  rO (oMove lo0) w2 <|
  rSkip) (rO (oMove rd0) wL0 <|
  rO (oMove rd2) wL0 <|
  rO (oMove rd2) wL0 <|
  rO (oConv 7 lo0) wL0 <|
  rCall 253 [lo0] wL0 <|
  rCall 252 [lo4, (rdC (.int 3 (.ofNat 0))), lo3, lo0] wL0 <|
  rSkip))
def d205 : DF := .mk [w0] resNil c205
def c206 : Run :=
  (rSeq (rO (oMove (rdC (.oth 1 0 [] []))) w2 <|
  rSkip) (rSeq (rSeq (rO (oMove rd0) wL0 <|
  rO (oLenV lo0) wL0 <|
  rO (oI ibLss lo0 (rdC (.int 3 (.ofNat 2)))) w8 <|
  rSkip) (rCond rd8 (rSeq (rO (oMove rd0) wL0 <|
  rO (oMove lo0) w2 <|
  rSkip) rRet) rSkip)) (rSeq (rSeq (rO (oMove (rdC (.int 3 (.ofNat 1)))) w3 <|
  rSkip) (rBlock 0 (rLoop (rSeq (rSeq (rO (oMove rd3) wL0 <|
  rO (oMove rd0) wL0 <|
  rO (oLenV lo0) wL0 <|
  rO (oI ibLss lo2 lo0) w13 <|
  rSkip) (rCond rd13 rSkip (rExit 0))) (rSeq (rBlock 1 (rSeq (rO (oMove rd0) wL0 <|
  rO (oMove rd3) wL0 <|
  rO (oIndexAddrV 1 lo1 lo0) wL0 <|
  rO (oLoad1 lo0) wL0 <|
  rO (oMove rd0) wL0 <|
  rO (oMove rd3) wL0 <|
  rO (oI ibSub lo0 (rdC (.int 3 (.ofNat 1)))) wL0 <|
  rO (oIndexAddrV 1 lo2 lo0) wL0 <|
  rO (oLoad1 lo0) wL0 <|
  rO (oI ibEql lo5 lo0) w25 <|
  rSkip) (rCond rd25 (rSeq (rO (oMove rd0) wL0 <|
  rO (oMove rd3) wL0 <|
  rO (oSliceV 1 lo1 (some lo0) none) wL0 <|
  rO (oMove lo0) w4 <|
  rSkip) (rSeq (rSeq (rO (oMove (rdC (.int 3 (.ofNat 1)))) w5 <|
  rSkip) (rBlock 2 (rLoop (rSeq (rSeq (rO (oMove rd5) wL0 <|
  rO (oMove rd4) wL0 <|
  rO (oLenV lo0) wL0 <|
  rO (oI ibLss lo2 lo0) w32 <|
  rSkip) (rCond rd32 rSkip (rExit 2))) (rSeq (rBlock 3 (rSeq (rO (oMove rd4) wL0 <|
  rO (oMove rd5) wL0 <|
  rO (oIndexAddrV 1 lo1 lo0) wL0 <|
  rO (oLoad1 lo0) wL0 <|
  rO (oMove rd4) wL0 <|
  rO (oMove rd5) wL0 <|
  rO (oI ibSub lo0 (rdC (.int 3 (.ofNat 1)))) wL0 <|
  rO (oIndexAddrV 1 lo2 lo0) wL0 <|
  rO (oLoad1 lo0) wL0 <|
  rO (oI ibNeq lo5 lo0) w44 <|
  rSkip) (rCond rd44 (rSeq (rO (oMove rd0) wL0 <|
  rO (oMove rd3) wL0 <|
  rO (oMove rd4) wL0 <|
  rO (oMove rd5) wL0 <|
  rO (oIndexAddrV 1 lo1 lo0) wL0 <|
  rO (oLoad1 lo0) wL0 <|
  rO (oIndexAddrV 1 lo5 lo4) wL0 <|
  rO (oStore1 lo0 lo1) wN <|
  rSkip) (rO (oMove rd3) wL0 <|
  rO (oI ibAdd lo0 (rdC (.int 3 (.ofNat 1)))) wL0 <|
  rO (oMove lo0) w3 <|
  rSkip)) rSkip))) (rO (oMove rd5) wL0 <|
  rO (oI ibAdd lo0 (rdC (.int 3 (.ofNat 1)))) wL0 <|
  rO (oMove lo0) w5 <|
  rSkip)))))) (rSeq (rO (oMove rd0) wL0 <|
  rO (oMove rd3) wL0 <|
  rO (oSliceV 1 lo1 (some lo0) none) wL0 <|
  rO (oClear [(.int 3 (.ofNat 0))] lo0) wN <|
  rSkip) (rSeq (rO (oMove rd0) wL0 <|
  rO (oMove rd3) wL0 <|
  rO (oSliceV 1 lo1 none (some lo0)) wL0 <|
  rO (oMove lo0) w2 <|
  rSkip) rRet)))) rSkip))) (rO (oMove rd3) wL0 <|
  rO (oI ibAdd lo0 (rdC (.int 3 (.ofNat 1)))) wL0 <|
  rO (oMove lo0) w3 <|
  rSkip)))))) (rSeq (rO (oMove rd0) wL0 <|
  rO (oMove lo0) w2 <|
  rSkip) rRet))))
def d206 : DF := .mk [w0] (resT rd2 resNil) c206
def c210 : Run :=
  (rSeq (rO (oMove (rdC (.bool false))) w2 <|
  rSkip) (rSeq (rO (oMove rd0) wL0 <|
  rO (oMove rd0) wL0 <|
  rO (oI ibNeq lo1 lo0) wL0 <|
  rO (oMove lo0) w2 <|
  rSkip) rRet))
def d210 : DF := .mk [w0] (resT rd2 resNil) c210
def c215 : Run :=
  (rSeq (rO (oBox rd0) w1 <|
  rO (oAlloc (mkCells [(.oth 1 0 [] []), (.int 3 (.ofNat 0))])) w2 <|
  rO (oMove (rdC (.int 3 (.ofNat 0)))) w3 <|
  rSkip) (rSeq (rSeq (rO (oLoadN 2 rd1) wL0 <|
  rO (oBuildSlice 1 [(.oth 1 0 [] []), (.int 3 (.ofNat 0))] [(0, 2, lo0)]) wL0 <|
  rCall 262 [lo0] wL0 <|
  rO (oMove lo0) w4 <|
  rSkip) (rSeq (rO (oMove rd4) wL0 <|
  rO (oI ibNeq lo0 (rdC (.int 3 (.ofNat 0)))) w12 <|
  rSkip) (rCond rd12 (rSeq (rO (oBuild [(.oth 1 0 [] []), (.int 3 (.ofNat 0))] []) wL0 <|
  rO (oMove rd4) wL0 <|
  rO (oStoreN 2 rd2 lo1) wN <|
  rO (oMove lo0) w3 <|
  rSkip) rRet) rSkip))) (rSeq (rO (oFieldAddr 0 rd1) wL0 <|
  rO (oLoad1 lo0) wL0 <|
  rO (oFieldAddr 1 rd1) wL0 <|
  rO (oLoad1 lo0) wL0 <|
  rO (oBuildSlice 1 [(.int 3 (.ofNat 0))] [(0, 1, lo0)]) wL0 <|
  rCall 263 [lo3, lo0] wL0 <|
  rO (oMove lo0) w5 <|
  rSkip) (rSeq (rO (oFieldAddr 0 rd1) wL0 <|
  rO (oLoad1 lo0) wL0 <|
  rO (oMove rd5) wL0 <|
  rCall 264 [lo1, lo0] wL0 <|
  rO (oMove lo0) wL0 <|
  rO (oExtract 0 lo0) wL0 <|
  rO (oExtract 1 lo1) wL0 <|
  rO (oMove lo1) w6 <|
  rO (oMove lo0) w7 <|
  rSkip) (rSeq (rO (oFieldAddr 0 rd1) wL0 <|
  rO (oLoad1 lo0) wL0 <|
  rO (oMove rd5) wL0 <|
  rO (oMove rd6) wL0 <|
  rO (oMove rd7) wL0 <|
  rCall 265 [lo3, lo2, lo1, lo0] wL0 <|
  rO (oStoreN 2 rd2 lo0) wN <|
  rO (oMove (rdC (.int 3 (.ofNat 0)))) w3 <|
  rSkip) rRet)))))
def d215 : DF := .mk [w0] (resN 2 rd2 (resT rd3 resNil)) c215
def c216 : Run :=
  (rSeq (rO (oBox rd2) w5 <|
  rO (oMove (rdC (.int 3 (.ofNat 0)))) w6 <|
  rSkip) (rSeq (rSeq (rO (oMove rd0) wL0 <|
  rO (oNilCheck lo0) wL0 <|
  rO (oFieldAddr 0 lo0) wL0 <|
  rO (oFieldAddr 1 lo0) wL0 <|
  rO (oLoad1 lo0) wL0 <|
  rO (oLenV lo0) wL0 <|
  rO (oI ibGeq lo0 (rdC (.int 3 (.ofNat 40)))) w14 <|
  rSkip) (rCond rd14 (rSeq (rO (oMove (rdC (.int 3 (.ofNat 9)))) w6 <|
  rSkip) rRet) rSkip)) (rSeq (rO (oMove rd0) wL0 <|
  rO (oNilCheck lo0) wL0 <|
  rO (oFieldAddr 5 lo0) wL0 <|
  rO (oFieldAddr 0 lo0) wL0 <|
  rO (oLoad1 lo0) wL0 <|
  rO (oMove rd1) wL0 <|
  rO (oIndexAddrV 3 lo1 lo0) wL0 <|
  rO (oFieldAddr 2 lo0) wL0 <|
  rO (oLoad1 lo0) wL0 <|
  rO (oMkFn 266 [] [rd5]) wL0 <|
  rCall 170 [lo1, lo0] wL0 <|
  rO (oMove lo0) w7 <|
  rSkip) (rSeq (rSeq (rO (oMove rd7) wL0 <|
  rO (oI ibLss lo0 (rdC (.int 3 (.ofNat 0)))) w27 <|
  rSkip) (rCond rd27 (rSeq (rO (oMove (rdC (.int 3 (.ofNat 10)))) w6 <|
  rSkip) rRet) rSkip)) (rSeq (rO (oMove rd0) wL0 <|
  rO (oMove rd0) wL0 <|
  rO (oNilCheck lo0) wL0 <|
  rO (oFieldAddr 0 lo0) wL0 <|
  rO (oFieldAddr 2 lo0) wL0 <|
  rO (oLoad1 lo0) wL0 <|
  rO (oMove rd0) wL0 <|
  rO (oNilCheck lo0) wL0 <|
  rO (oFieldAddr 0 lo0) wL0 <|
  rO (oFieldAddr 1 lo0) wL0 <|
  rO (oLoad1 lo0) wL0 <|
  rO (oLenV lo0) wL0 <|
  rO (oBuild [(.int 3 (.ofNat 0)), (.int 3 (.ofNat 0)), (.oth 1 0 [] [])] [(0, 1, lo0)]) wL0 <|
  rO (oBuildSlice 1 [(.int 3 (.ofNat 0)), (.int 3 (.ofNat 0)), (.oth 1 0 [] [])] [(0, 3, lo0)]) wL0 <|
  rO (oAppend 3 lo8 lo0) wL0 <|
  rO (oNilCheck lo14) wL0 <|
  rO (oFieldAddr 0 lo0) wL0 <|
  rO (oFieldAddr 2 lo0) wL0 <|
  rO (oStore1 lo0 lo3) wN <|
  rSkip) (rSeq (rO (oMove rd0) wL0 <|
  rO (oMove rd0) wL0 <|
  rO (oNilCheck lo0) wL0 <|
  rO (oFieldAddr 0 lo0) wL0 <|
  rO (oFieldAddr 1 lo0) wL0 <|
  rO (oLoad1 lo0) wL0 <|
  rO (oMove rd1) wL0 <|
  rO (oMove rd7) wL0 <|
  rO (oLoad1 rd5) wL0 <|
  rO (oBuild [(.int 3 (.ofNat 0)), (.int 3 (.ofNat 0)), (.oth 1 0 [] []), (.bool false), (.int 3 (.ofNat 0))] [(0, 1, lo2), (1, 1, lo1), (2, 1, lo0)]) wL0 <|
  rO (oBuildSlice 1 [(.int 3 (.ofNat 0)), (.int 3 (.ofNat 0)), (.oth 1 0 [] []), (.bool false), (.int 3 (.ofNat 0))] [(0, 5, lo0)]) wL0 <|
  rO (oAppend 5 lo5 lo0) wL0 <|
  rO (oNilCheck lo11) wL0 <|
  rO (oFieldAddr 0 lo0) wL0 <|
  rO (oFieldAddr 1 lo0) wL0 <|
  rO (oStore1 lo0 lo3) wN <|
  rSkip) (rSeq (rO (oMove (rdC (.int 3 (.ofNat 0)))) w6 <|
  rSkip) rRet)))))))
def d216 : DF := .mk [w0, w1, w2] (resT rd6 resNil) c216
def c217 : Run :=
  (rSeq (rO (oMove (rdC (.oth 1 0 [] []))) w2 <|
  rSkip) (rSeq (rSeq (rO (oMove rd0) wL0 <|
  rO (oSlNil true lo0) w4 <|
  rSkip) (rCond rd4 (rSeq (rO (oMove (rdC (.oth 1 0 [] []))) w2 <|
  rSkip) rRet) rSkip)) (rSeq (rO (oBuildSlice 0 [] []) wL0 <|
  rO (oMove rd0) wL0 <|
  rO (oAppend 3 lo1 lo0) wL0 <|
  rO (oMove lo0) w2 <|
  rSkip) rRet)))
def d217 : DF := .mk [w0] (resT rd2 resNil) c217
def c218 : Run :=
  (rSeq (rO (oMove (rdC (.oth 1 0 [] []))) w2 <|
  rSkip) (rSeq (rSeq (rO (oMove rd0) wL0 <|
  rO (oSlNil true lo0) w4 <|
  rSkip) (rCond rd4 (rSeq (rO (oMove (rdC (.oth 1 0 [] []))) w2 <|
  rSkip) rRet) rSkip)) (rSeq (rO (oBuildSlice 0 [] []) wL0 <|
  rO (oMove rd0) wL0 <|
  rO (oAppend 4 lo1 lo0) wL0 <|
  rO (oMove lo0) w2 <|
  rSkip) rRet)))
def d218 : DF := .mk [w0] (resT rd2 resNil) c218
def c219 : Run :=
  (rSeq (rO (oMove (rdC (.oth 1 0 [] []))) w2 <|
  rSkip) (rSeq (rSeq (rO (oMove rd0) wL0 <|
  rO (oSlNil true lo0) w4 <|
  rSkip) (rCond rd4 (rSeq (rO (oMove (rdC (.oth 1 0 [] []))) w2 <|
  rSkip) rRet) rSkip)) (rSeq (rO (oBuildSlice 0 [] []) wL0 <|
  rO (oMove rd0) wL0 <|
  rO (oAppend 4 lo1 lo0) wL0 <|
  rO (oMove lo0) w2 <|
  rSkip) rRet)))
def d219 : DF := .mk [w0] (resT rd2 resNil) c219
def c220 : Run :=
  (rSeq (rO (oBox rd0) w1 <|
  rO (oMove (rdC (.oth 6 0 [] []))) w2 <|
  rSkip) (rSeq (rO (oMkFn 267 [] [rd1]) wL0 <|
  rO (oMove lo0) w2 <|
  rSkip) rRet))
def d220 : DF := .mk [w0] (resT rd2 resNil) c220
def c221 : Run :=
  (rSeq (rO (oMove (rdC (.oth 1 0 [] []))) w2 <|
  rSkip) (rSeq (rO (oMove rd0) wL0 <|
  rO (oMove rd0) wL0 <|
  rO (oLenV lo0) wL0 <|
  rO (oMove rd0) wL0 <|
  rO (oLenV lo0) wL0 <|
  rO (oSlice3 8 lo4 none lo2 lo0) wL0 <|
  rO (oMove lo0) w2 <|
  rSkip) rRet))
def d221 : DF := .mk [w0] (resT rd2 resNil) c221
def c222 : Run :=
  (rSeq (rO (oBox rd0) w2 <|
  rO (oBox rd1) w3 <|
  rO (oMove (rdC (.bool false))) w4 <|
  rSkip) (rSeq (rO (oFieldAddr 0 rd2) wL0 <|
  rO (oLoad1 lo0) wL0 <|
  rO (oFieldAddr 0 rd3) wL0 <|
  rO (oLoad1 lo0) wL0 <|
  rO (oBuildSlice 2 [(.int 3 (.ofNat 0)), (.int 3 (.ofNat 0))] [(0, 1, lo2), (1, 1, lo0)]) wL0 <|
  rCall 130 [lo0] wL0 <|
  rO (oMove lo0) wL0 <|
  rG lo0 true wL0 (rO (oFieldAddr 1 rd2) wL0) <|
  rG lo1 true wL0 (rO (oLoad1 lo0) wL0) <|
  rG lo2 true wL0 (rO (oFieldAddr 1 rd3) wL0) <|
  rG lo3 true wL0 (rO (oLoad1 lo0) wL0) <|
  rG lo4 true wL0 (rO (oB true lo2 lo0) wL0) <|
  rO (oPick lo5 lo0 (rdC (.bool false))) wL0 <|
  rO (oMove lo0) wL0 <|
  rG lo0 true wL0 (rO (oFieldAddr 2 rd2) wL0) <|
  rG lo1 true wL0 (rO (oLoad1 lo0) wL0) <|
  rG lo2 true wL0 (rO (oFieldAddr 2 rd3) wL0) <|
  rG lo3 true wL0 (rO (oLoad1 lo0) wL0) <|
  rG lo4 true wL0 (rO (oB true lo2 lo0) wL0) <|
  rO (oPick lo5 lo0 (rdC (.bool false))) wL0 <|
  rO (oMove lo0) wL0 <|
  rG lo0 true wL0 (rO (oFieldAddr 6 rd2) wL0) <|
  rG lo1 true wL0 (rO (oLoad1 lo0) wL0) <|
  rG lo2 true wL0 (rO (oFieldAddr 6 rd3) wL0) <|
  rG lo3 true wL0 (rO (oLoad1 lo0) wL0) <|
  rG lo4 true wL0 (rO (oB true lo2 lo0) wL0) <|
  rO (oPick lo5 lo0 (rdC (.bool false))) wL0 <|
  rO (oMove lo0) wL0 <|
  rG lo0 true wL0 (rO (oFieldAddr 7 rd2) wL0) <|
  rG lo1 true wL0 (rO (oLoad1 lo0) wL0) <|
  rG lo2 true wL0 (rO (oFieldAddr 7 rd3) wL0) <|
  rG lo3 true wL0 (rO (oLoad1 lo0) wL0) <|
  rG lo4 true wL0 (rO (oI ibEql lo2 lo0) wL0) <|
  rO (oPick lo5 lo0 (rdC (.bool false))) wL0 <|
  rO (oMove lo0) wL0 <|
  rG lo0 true wL0 (rO (oFieldAddr 3 rd2) wL0) <|
  rG lo1 true wL0 (rO (oFieldAddr 0 lo0) wL0) <|
  rG lo2 true wL0 (rO (oLoad1 lo0) wL0) <|
  rG lo3 true wL0 (rO (oFieldAddr 3 rd3) wL0) <|
  rG lo4 true wL0 (rO (oFieldAddr 0 lo0) wL0) <|
  rG lo5 true wL0 (rO (oLoad1 lo0) wL0) <|
  rG lo6 true wL0 (rO (oBuildSlice 2 [(.int 3 (.ofNat 0)), (.int 3 (.ofNat 0))] [(0, 1, lo3), (1, 1, lo0)]) wL0) <|
  rG lo7 true wL0 (rCall 130 [lo0] wL0) <|
  rO (oPick lo8 lo0 (rdC (.bool false))) wL0 <|
  rO (oMove lo0) wL0 <|
  rG lo0 true wL0 (rO (oFieldAddr 3 rd2) wL0) <|
  rG lo1 true wL0 (rO (oFieldAddr 1 lo0) wL0) <|
  rG lo2 true wL0 (rO (oLoad1 lo0) wL0) <|
  rG lo3 true wL0 (rO (oFieldAddr 3 rd3) wL0) <|
  rG lo4 true wL0 (rO (oFieldAddr 1 lo0) wL0) <|
  rG lo5 true wL0 (rO (oLoad1 lo0) wL0) <|
  rG lo6 true wL0 (rO (oBuildSlice 2 [(.int 3 (.ofNat 0)), (.int 3 (.ofNat 0))] [(0, 1, lo3), (1, 1, lo0)]) wL0) <|
  rG lo7 true wL0 (rCall 130 [lo0] wL0) <|
  rO (oPick lo8 lo0 (rdC (.bool false))) wL0 <|
  rO (oMove lo0) wL0 <|
  rG lo0 true wL0 (rO (oFieldAddr 3 rd2) wL0) <|
  rG lo1 true wL0 (rO (oFieldAddr 2 lo0) wL0) <|
  rG lo2 true wL0 (rO (oLoad1 lo0) wL0) <|
  rG lo3 true wL0 (rO (oFieldAddr 3 rd3) wL0) <|
  rG lo4 true wL0 (rO (oFieldAddr 2 lo0) wL0) <|
  rG lo5 true w65 (rO (oLoad1 lo0) w65) <|
  rG lo5 true w66 (rCall 47 [lo2, rd65] w66) <|
  rO (oPick lo5 rd66 (rdC (.bool false))) w67 <|
  rO (oMove rd67) w4 <|
  rSkip) rRet))
def d222 : DF := .mk [w0, w1] (resT rd4 resNil) c222
def c223 : Run :=
  (rSeq (rO (oBox rd0) w2 <|
  rO (oBox rd1) w3 <|
  rO (oMove (rdC (.oth 0 0 [] []))) w4 <|
  rO (oMove (rdC (.int 3 (.ofNat 0)))) w5 <|
  rSkip) (rSeq (rSeq (rO (oLoadN 1 rd2) wL0 <|
  rO (oLoadN 5 rd3) wL0 <|
  rCall 95 [lo1, lo0] wL0 <|
  rO (oMove lo0) w6 <|
  rSkip) (rSeq (rO (oMove rd6) wL0 <|
  rO (oI ibNeq lo0 (rdC (.int 3 (.ofNat 0)))) w12 <|
  rSkip) (rCond rd12 (rSeq (rO (oMove rd6) wL0 <|
  rO (oMove (rdC (.oth 0 0 [] []))) w4 <|
  rO (oMove lo0) w5 <|
  rSkip) rRet) rSkip))) (rSeq (rO (oLoadN 5 rd3) wL0 <|
  rO (oLoadN 1 rd2) wL0 <|
  rCall 269 [lo1] wL0 <|
  rChk (oLoadN 1 rd2) lo1 <|
  rO (oBuild [(.oth 1 0 [] []), (.oth 1 0 [] []), (.oth 1 0 [] []), (.int 3 (.ofNat 0)), (.int 3 (.ofNat 0)), (.oth 1 0 [] []), (.oth 6 0 [] [])] [(0, 5, lo0), (5, 1, lo1)]) wL0 <|
  rO (oBox lo0) wL0 <|
  rO (oMove lo0) w7 <|
  rSkip) (rSeq (rO (oMove rd7) wL0 <|
  rO (oMove rd7) wL0 <|
  rO (oMkFn 270 [lo0] []) wL0 <|
  rO (oNilCheck lo2) wL0 <|
  rO (oFieldAddr 6 lo0) wL0 <|
  rO (oStore1 lo0 lo2) wN <|
  rSkip) (rSeq (rO (oMove rd7) wL0 <|
  rO (oMove lo0) w4 <|
  rO (oMove (rdC (.int 3 (.ofNat 0)))) w5 <|
  rSkip) rRet)))))
def d223 : DF := .mk [w0, w1] (resT rd4 (resT rd5 resNil)) c223
def c224 : Run :=
  (rSeq (rO (oMove (rdC (.int 3 (.ofNat 0)))) w2 <|
  rSkip) (rSeq (rO (oMove rd0) wL0 <|
  rO (oNilCheck lo0) wL0 <|
  rO (oFieldAddr 0 lo0) wL0 <|
  rO (oFieldAddr 3 lo0) wL0 <|
  rO (oLoad1 lo0) wL0 <|
  rO (oI ibAdd lo0 (rdC (.int 3 (.ofNat 1)))) wL0 <|
  rO (oNilCheck lo5) wL0 <|
  rO (oFieldAddr 0 lo0) wL0 <|
  rO (oFieldAddr 3 lo0) wL0 <|
  rO (oStore1 lo0 lo3) wN <|
  rSkip) (rSeq (rO (oMove rd0) wL0 <|
  rO (oNilCheck lo0) wL0 <|
  rO (oFieldAddr 0 lo0) wL0 <|
  rO (oFieldAddr 2 lo0) wL0 <|
  rO (oLoad1 lo0) wL0 <|
  rO (oMove rd0) wL0 <|
  rO (oNilCheck lo0) wL0 <|
  rO (oFieldAddr 0 lo0) wL0 <|
  rO (oFieldAddr 2 lo0) wL0 <|
  rO (oLoad1 lo0) wL0 <|
  rO (oLenV lo0) wL0 <|
  rO (oI ibSub lo0 (rdC (.int 3 (.ofNat 1)))) wL0 <|
  rO (oIndexAddrV 3 lo7 lo0) wL0 <|
  rO (oMove lo0) w3 <|
  rSkip) (rSeq (rO (oMove rd0) wL0 <|
  rO (oNilCheck lo0) wL0 <|
  rO (oFieldAddr 0 lo0) wL0 <|
  rO (oFieldAddr 1 lo0) wL0 <|
  rO (oLoad1 lo0) wL0 <|
  rO (oMove rd3) wL0 <|
  rO (oNilCheck lo0) wL0 <|
  rO (oFieldAddr 0 lo0) wL0 <|
  rO (oLoad1 lo0) wL0 <|
  rO (oIndexAddrV 5 lo4 lo0) wL0 <|
  rO (oLoadN 5 lo0) wL0 <|
  rO (oAlloc (mkCells [(.int 3 (.ofNat 0)), (.int 3 (.ofNat 0)), (.oth 1 0 [] []), (.bool false), (.int 3 (.ofNat 0))])) w4 <|
  rO (oStoreN 5 rd4 lo0) wN <|
  rSkip) (rSeq (rO (oMove rd0) wL0 <|
  rO (oNilCheck lo0) wL0 <|
  rO (oFieldAddr 5 lo0) wL0 <|
  rO (oFieldAddr 0 lo0) wL0 <|
  rO (oLoad1 lo0) wL0 <|
  rO (oFieldAddr 0 rd4) wL0 <|
  rO (oLoad1 lo0) wL0 <|
  rO (oIndexAddrV 3 lo2 lo0) wL0 <|
  rO (oFieldAddr 2 lo0) wL0 <|
  rO (oLoad1 lo0) wL0 <|
  rO (oFieldAddr 1 rd4) wL0 <|
  rO (oLoad1 lo0) wL0 <|
  rO (oIndexAddrV 4 lo2 lo0) wL0 <|
  rO (oLoadN 4 lo0) wL0 <|
  rO (oAlloc (mkCells [(.str 0 0), (.int 3 (.ofNat 0)), (.oth 1 0 [] []), (.int 3 (.ofNat 0))])) w5 <|
  rO (oStoreN 4 rd5 lo0) wN <|
  rSkip) (rSeq (rSeq (rO (oMove rd3) wL0 <|
  rO (oNilCheck lo0) wL0 <|
  rO (oFieldAddr 1 lo0) wL0 <|
  rO (oLoad1 lo0) wL0 <|
  rO (oFieldAddr 2 rd5) wL0 <|
  rO (oLoad1 lo0) wL0 <|
  rO (oLenV lo0) wL0 <|
  rO (oI ibEql lo3 lo0) w63 <|
  rSkip) (rCond rd63 (rSeq (rO (oMove rd0) wL0 <|
  rO (oMove rd0) wL0 <|
  rO (oMove rd3) wL0 <|
  rO (oNilCheck lo0) wL0 <|
  rO (oLoadN 3 lo0) wL0 <|
  rO (oMove rd3) wL0 <|
  rO (oNilCheck lo0) wL0 <|
  rO (oFieldAddr 2 lo0) wL0 <|
  rO (oLoad1 lo0) wL0 <|
  rO (oFieldAddr 3 rd5) wL0 <|
  rO (oLoad1 lo0) wL0 <|
  rO (oIndexAddrV 1 lo2 lo0) wL0 <|
  rO (oLoad1 lo0) wL0 <|
  rCall 272 [lo11, lo8, lo0] wL0 <|
  rCall 271 [lo13, lo0] wL0 <|
  rO (oMove lo0) w2 <|
  rSkip) rRet) rSkip)) (rSeq (rO (oMove rd0) wL0 <|
  rO (oNilCheck lo0) wL0 <|
  rO (oFieldAddr 0 lo0) wL0 <|
  rO (oFieldAddr 2 lo0) wL0 <|
  rO (oLoad1 lo0) wL0 <|
  rO (oLenV lo0) wL0 <|
  rO (oI ibSub lo0 (rdC (.int 3 (.ofNat 1)))) wL0 <|
  rO (oMove lo0) w6 <|
  rSkip) (rSeq (rO (oMove rd0) wL0 <|
  rO (oNilCheck lo0) wL0 <|
  rO (oFieldAddr 6 lo0) wL0 <|
  rO (oLoad1 lo0) wL0 <|
  rO (oMove rd3) wL0 <|
  rO (oFieldAddr 2 rd5) wL0 <|
  rO (oLoad1 lo0) wL0 <|
  rO (oMove rd3) wL0 <|
  rO (oNilCheck lo0) wL0 <|
  rO (oFieldAddr 1 lo0) wL0 <|
  rO (oLoad1 lo0) wL0 <|
  rO (oIndexAddrV 4 lo4 lo0) wL0 <|
  rO (oLoadN 4 lo0) wL0 <|
  rCallV lo9 [lo8, lo0] wL0 <|
  rO (oMove lo0) wL0 <|
  rO (oExtract 0 lo0) wL0 <|
  rO (oExtract 1 lo1) wL0 <|
  rO (oMove lo1) w7 <|
  rO (oMove lo0) w8 <|
  rSkip) (rSeq (rSeq (rO (oMove rd8) wL0 <|
  rO (oI ibNeq lo0 (rdC (.int 3 (.ofNat 0)))) w104 <|
  rSkip) (rCond rd104 (rSeq (rO (oMove rd0) wL0 <|
  rO (oMove rd8) wL0 <|
  rCall 271 [lo1, lo0] wL0 <|
  rO (oMove lo0) w2 <|
  rSkip) rRet) rSkip)) (rSeq (rSeq (rO (oMove rd7) wL0 <|
  rO (oNot lo0) w109 <|
  rSkip) (rCond rd109 (rO (oMove rd0) wL0 <|
  rO (oNilCheck lo0) wL0 <|
  rO (oFieldAddr 0 lo0) wL0 <|
  rO (oFieldAddr 2 lo0) wL0 <|
  rO (oLoad1 lo0) wL0 <|
  rO (oMove rd6) wL0 <|
  rO (oIndexAddrV 3 lo1 lo0) wL0 <|
  rO (oFieldAddr 1 lo0) wL0 <|
  rO (oLoad1 lo0) wL0 <|
  rO (oI ibAdd lo0 (rdC (.int 3 (.ofNat 1)))) wL0 <|
  rO (oIndexAddrV 3 lo5 lo4) wL0 <|
  rO (oFieldAddr 1 lo0) wL0 <|
  rO (oStore1 lo0 lo2) wN <|
  rSkip) rSkip)) (rSeq (rO (oMove (rdC (.int 3 (.ofNat 0)))) w2 <|
  rSkip) rRet)))))))))))
def d224 : DF := .mk [w0] (resT rd2 resNil) c224
def c242 : Run :=
  (rSeq (rO (oBox rd0) w1 <|
  rO (oMove (rdC (.int 3 (.ofNat 0)))) w2 <|
  rSkip) (rSeq (rO (oAlloc (mkCells [(.oth 6 0 [] [])])) w3 <|
  rO (oStore1 rd3 (rdC (.oth 4 282 [] []))) wN <|
  rSkip) (rSeq (rO (oMkFn 283 [] [rd1]) wL0 <|
  rO (oMove lo0) w4 <|
  rSkip) (rSeq (rBlock 0 (rSeq (rO (oFieldAddr 2 rd1) wL0 <|
  rO (oLoad1 lo0) wL0 <|
  rO (oLenV lo0) wL0 <|
  rO (oI ibLss lo0 (rdC (.int 3 (.ofNat 1)))) wL0 <|
  rO (oMove lo0) wL0 <|
  rG lo0 false wL0 (rO (oFieldAddr 2 rd1) wL0) <|
  rG lo1 false wL0 (rO (oLoad1 lo0) wL0) <|
  rG lo2 false wL0 (rO (oLenV lo0) wL0) <|
  rG lo3 false wL0 (rO (oI ibGtr lo0 (rdC (.int 3 (.ofNat 6)))) wL0) <|
  rO (oPick lo4 (rdC (.bool true)) lo0) wL0 <|
  rO (oMove lo0) wL0 <|
  rG lo0 false wL0 (rO (oFieldAddr 2 rd1) wL0) <|
  rG lo1 false wL0 (rO (oLoad1 lo0) wL0) <|
  rG lo2 false wL0 (rCall 286 [lo0, (rdC (.oth 4 287 [] []))] wL0) <|
  rG lo3 false wL0 (rO (oNot lo0) wL0) <|
  rO (oPick lo4 (rdC (.bool true)) lo0) wL0 <|
  rO (oMove lo0) w6 <|
  rSkip) (rCond rd6 (rSeq (rO (oMove (rdC (.int 3 (.ofNat 2)))) w2 <|
  rSkip) rRet) (rSeq (rO (oFieldAddr 1 rd1) wL0 <|
  rO (oLoad1 lo0) wL0 <|
  rO (oI ibLss lo0 (rdC (.int 3 (.ofNat 0)))) wL0 <|
  rO (oMove lo0) wL0 <|
  rG lo0 false wL0 (rO (oFieldAddr 1 rd1) wL0) <|
  rG lo1 false wL0 (rO (oLoad1 lo0) wL0) <|
  rG lo2 false wL0 (rO (oI ibGtr lo0 (rdC (.int 3 (.ofNat 4)))) wL0) <|
  rO (oPick lo3 (rdC (.bool true)) lo0) wL0 <|
  rO (oMove lo0) wL0 <|
  rG lo0 false wL0 (rO (oFieldAddr 2 rd1) wL0) <|
  rG lo1 false wL0 (rO (oLoad1 lo0) wL0) <|
  rG lo2 false wL0 (rCall 286 [lo0, (rdC (.oth 4 288 [] []))] wL0) <|
  rG lo3 false wL0 (rO (oNot lo0) wL0) <|
  rO (oPick lo4 (rdC (.bool true)) lo0) wL0 <|
  rO (oMove lo0) w23 <|
  rSkip) (rCond rd23 (rSeq (rO (oMove (rdC (.int 3 (.ofNat 3)))) w2 <|
  rSkip) rRet) (rSeq (rO (oFieldAddr 0 rd1) wL0 <|
  rO (oLoad1 lo0) wL0 <|
  rCall 289 [lo0] wL0 <|
  rO (oNot lo0) wL0 <|
  rO (oMove lo0) wL0 <|
  rG lo0 false wL0 (rO (oFieldAddr 2 rd1) wL0) <|
  rG lo1 false wL0 (rO (oLoad1 lo0) wL0) <|
  rG lo2 false wL0 (rO (oMkFn 290 [] [rd3]) wL0) <|
  rG lo3 false wL0 (rCall 286 [lo1, lo0] wL0) <|
  rG lo4 false wL0 (rO (oNot lo0) wL0) <|
  rO (oPick lo5 (rdC (.bool true)) lo0) wL0 <|
  rO (oMove lo0) w38 <|
  rSkip) (rCond rd38 (rSeq (rO (oMove (rdC (.int 3 (.ofNat 4)))) w2 <|
  rSkip) rRet) (rSeq (rO (oFieldAddr 2 rd1) wL0 <|
  rO (oLoad1 lo0) wL0 <|
  rO (oMkFn 291 [] [rd3, rd1]) wL0 <|
  rCall 76 [lo1, lo0] wL0 <|
  rO (oMove lo0) w50 <|
  rSkip) (rCond rd50 (rSeq (rO (oMove (rdC (.int 3 (.ofNat 7)))) w2 <|
  rSkip) rRet) (rSeq (rO (oFieldAddr 1 rd1) wL0 <|
  rO (oLoad1 lo0) wL0 <|
  rO (oI ibEql lo0 (rdC (.int 3 (.ofNat 0)))) wL0 <|
  rO (oMove lo0) wL0 <|
  rG lo0 true wL0 (rO (oFieldAddr 2 rd1) wL0) <|
  rG lo1 true wL0 (rO (oLoad1 lo0) wL0) <|
  rG lo2 true wL0 (rO (oLoad1 rd3) wL0) <|
  rG lo3 true wL0 (rCall 286 [lo1, lo0] wL0) <|
  rG lo4 true wL0 (rO (oNot lo0) wL0) <|
  rO (oPick lo5 lo0 (rdC (.bool false))) wL0 <|
  rO (oMove lo0) w55 <|
  rSkip) (rCond rd55 (rSeq (rO (oMove (rdC (.int 3 (.ofNat 7)))) w2 <|
  rSkip) rRet) (rSeq (rO (oFieldAddr 2 rd1) wL0 <|
  rO (oLoad1 lo0) wL0 <|
  rO (oMove rd4) wL0 <|
  rCall 76 [lo1, lo0] wL0 <|
  rO (oMove lo0) w66 <|
  rSkip) (rCond rd66 (rSeq (rO (oMove (rdC (.int 3 (.ofNat 5)))) w2 <|
  rSkip) rRet) rSkip))))))))))))) (rSeq (rO (oMove (rdC (.int 3 (.ofNat 0)))) w2 <|
  rSkip) rRet)))))
def d242 : DF := .mk [w0] (resT rd2 resNil) c242
def c243 : Run :=
  (rSeq (rO (oBox rd0) w4 <|
  rO (oBox rd1) w5 <|
  rO (oBox rd2) w6 <|
  rO (oBox rd3) w7 <|
  rO (oMove (rdC (.int 3 (.ofNat 0)))) w8 <|
  rSkip) (rSeq (rO (oFieldAddr 2 rd6) wL0 <|
  rO (oLoad1 lo0) wL0 <|
  rO (oLoad1 rd7) wL0 <|
  rO (oIndexAddrV 4 lo1 lo0) wL0 <|
  rO (oLoadN 4 lo0) wL0 <|
  rO (oAlloc (mkCells [(.int 3 (.ofNat 0)), (.str 0 0), (.int 3 (.ofNat 0)), (.oth 1 0 [] [])])) w9 <|
  rO (oStoreN 4 rd9 lo0) wN <|
  rSkip) (rSeq (rO (oLoadN 1 rd4) wL0 <|
  rCall 220 [lo0] wL0 <|
  rO (oMove lo0) w10 <|
  rSkip) (rSeq (rO (oFieldAddr 0 rd9) wL0 <|
  rO (oLoad1 lo0) wL0 <|
  rO (oI ibEql lo0 (rdC (.int 3 (.ofNat 1)))) wL0 <|
  rO (oMove lo0) wL0 <|
  rG lo0 false wL0 (rO (oFieldAddr 0 rd9) wL0) <|
  rG lo1 false wL0 (rO (oLoad1 lo0) wL0) <|
  rG lo2 false wL0 (rO (oI ibEql lo0 (rdC (.int 3 (.ofNat 2)))) wL0) <|
  rO (oPick lo3 (rdC (.bool true)) lo0) wL0 <|
  rO (oFieldAddr 0 rd9) wL0 <|
  rO (oLoad1 lo0) wL0 <|
  rO (oI ibEql lo0 (rdC (.int 3 (.ofNat 4)))) wL0 <|
  rO (oMove lo0) wL0 <|
  rG lo0 false wL0 (rO (oFieldAddr 0 rd9) wL0) <|
  rG lo1 false wL0 (rO (oLoad1 lo0) wL0) <|
  rG lo2 false wL0 (rO (oI ibEql lo0 (rdC (.int 3 (.ofNat 5)))) wL0) <|
  rO (oPick lo3 (rdC (.bool true)) lo0) wL0 <|
  rO (oMove lo8) w11 <|
  rO (oMove lo0) w12 <|
  rSkip) (rSeq (rO (oMkMap 8) wL0 <|
  rO (oFieldAddr 1 rd5) wL0 <|
  rO (oLoad1 lo0) wL0 <|
  rO (oI ibSub lo0 (rdC (.int 3 (.ofNat 1)))) wL0 <|
  rO (oMapUpd 8 lo3 (rdC (.int 3 (.ofNat 1))) lo0) wN <|
  rO (oFieldAddr 1 rd6) wL0 <|
  rO (oLoad1 lo0) wL0 <|
  rO (oI ibSub lo0 (rdC (.int 3 (.ofNat 1)))) wL0 <|
  rO (oMapUpd 8 lo6 (rdC (.int 3 (.ofNat 2))) lo0) wN <|
  rO (oMove lo6) wL0 <|
  rO (oFieldAddr 0 rd9) wL0 <|
  rO (oLoad1 lo0) wL0 <|
  rO (oLookup 8 (.int 3 (.ofNat 0)) lo2 lo0) wL0 <|
  rO (oMove lo0) w13 <|
  rSkip) (rSeq (rBlock 0 (rSeq (rO (oFieldAddr 0 rd9) wL0 <|
  rO (oLoad1 lo0) wL0 <|
  rO (oI ibLss lo0 (rdC (.int 3 (.ofNat 1)))) wL0 <|
  rO (oMove lo0) wL0 <|
  rG lo0 false wL0 (rO (oFieldAddr 0 rd9) wL0) <|
  rG lo1 false wL0 (rO (oLoad1 lo0) wL0) <|
  rG lo2 false wL0 (rO (oI ibGtr lo0 (rdC (.int 3 (.ofNat 5)))) wL0) <|
  rO (oPick lo3 (rdC (.bool true)) lo0) wL0 <|
  rO (oMove lo0) w49 <|
  rSkip) (rCond rd49 (rSeq (rO (oMove (rdC (.int 3 (.ofNat 3)))) w8 <|
  rSkip) rRet) (rSeq (rO (oMove rd11) wL0 <|
  rO (oMove lo0) wL0 <|
  rG lo0 true wL0 (rO (oFieldAddr 1 rd9) wL0) <|
  rG lo1 true wL0 (rO (oLoad1 lo0) wL0) <|
  rG lo2 true wL0 (rO (oS sbNeq lo0 (rdC (.str 0 0))) wL0) <|
  rO (oPick lo3 lo0 (rdC (.bool false))) wL0 <|
  rO (oMove lo0) wL0 <|
  rG lo0 false wL0 (rO (oMove rd11) wL0) <|
  rG lo1 false wL0 (rO (oNot lo0) wL0) <|
  rG lo2 false wL0 (rO (oMove lo0) wL0) <|
  rG lo0 true wL0 (rO (oFieldAddr 1 rd9) wL0) <|
  rG lo1 true wL0 (rO (oLoad1 lo0) wL0) <|
  rG lo2 true wL0 (rCall 289 [lo0] wL0) <|
  rG lo3 true wL0 (rO (oNot lo0) wL0) <|
  rG lo7 false wL0 (rO (oPick lo4 lo0 (rdC (.bool false))) wL0) <|
  rO (oPick lo8 (rdC (.bool true)) lo0) wL0 <|
  rO (oMove lo0) w58 <|
  rSkip) (rCond rd58 (rSeq (rO (oMove (rdC (.int 3 (.ofNat 4)))) w8 <|
  rSkip) rRet) (rSeq (rO (oFieldAddr 2 rd9) wL0 <|
  rO (oLoad1 lo0) wL0 <|
  rO (oI ibLss lo0 (rdC (.int 3 (.ofNat 0)))) wL0 <|
  rO (oMove lo0) wL0 <|
  rG lo0 false wL0 (rO (oFieldAddr 2 rd9) wL0) <|
  rG lo1 false wL0 (rO (oLoad1 lo0) wL0) <|
  rG lo2 false wL0 (rO (oMove rd13) wL0) <|
  rG lo3 false wL0 (rO (oI ibGtr lo1 lo0) wL0) <|
  rO (oPick lo4 (rdC (.bool true)) lo0) wL0 <|
  rO (oMove lo0) w75 <|
  rSkip) (rCond rd75 (rSeq (rO (oMove (rdC (.int 3 (.ofNat 1)))) w8 <|
  rSkip) rRet) (rSeq (rO (oMove rd11) wL0 <|
  rO (oMove lo0) wL0 <|
  rG lo0 true wL0 (rO (oFieldAddr 3 rd9) wL0) <|
  rG lo1 true wL0 (rO (oLoad1 lo0) wL0) <|
  rG lo2 true wL0 (rO (oLenV lo0) wL0) <|
  rG lo3 true wL0 (rO (oI ibGtr lo0 (rdC (.int 3 (.ofNat 0)))) wL0) <|
  rO (oPick lo4 lo0 (rdC (.bool false))) wL0 <|
  rO (oMove lo0) wL0 <|
  rG lo0 false wL0 (rO (oFieldAddr 0 rd9) wL0) <|
  rG lo1 false wL0 (rO (oLoad1 lo0) wL0) <|
  rG lo2 false wL0 (rO (oI ibEql lo0 (rdC (.int 3 (.ofNat 3)))) wL0) <|
  rG lo3 false wL0 (rO (oMove lo0) wL0) <|
  rG lo0 true wL0 (rO (oFieldAddr 3 rd9) wL0) <|
  rG lo1 true wL0 (rO (oLoad1 lo0) wL0) <|
  rG lo2 true wL0 (rO (oLenV lo0) wL0) <|
  rG lo3 true wL0 (rO (oI ibGtr lo0 (rdC (.int 3 (.ofNat 4)))) wL0) <|
  rG lo8 false wL0 (rO (oPick lo4 lo0 (rdC (.bool false))) wL0) <|
  rO (oPick lo9 (rdC (.bool true)) lo0) wL0 <|
  rO (oMove lo0) w85 <|
  rSkip) (rCond rd85 (rSeq (rO (oMove (rdC (.int 3 (.ofNat 2)))) w8 <|
  rSkip) rRet) (rSeq (rO (oFieldAddr 3 rd9) wL0 <|
  rO (oLoad1 lo0) wL0 <|
  rO (oMkFn 293 [] [rd7]) wL0 <|
  rCall 292 [lo1, lo0] wL0 <|
  rO (oNot lo0) wL0 <|
  rO (oMove lo0) wL0 <|
  rG lo0 false wL0 (rO (oMove rd12) wL0) <|
  rG lo1 false wL0 (rO (oMove lo0) wL0) <|
  rG lo0 true wL0 (rO (oMove rd10) wL0) <|
  rG lo1 true wL0 (rO (oFieldAddr 1 rd9) wL0) <|
  rG lo2 true wL0 (rO (oLoad1 lo0) wL0) <|
  rG lo3 true wL0 (rCallV lo2 [lo0] wL0) <|
  rG lo4 true wL0 (rO (oI ibLss lo0 (rdC (.int 3 (.ofNat 0)))) wL0) <|
  rG lo7 false wL0 (rO (oPick lo5 lo0 (rdC (.bool false))) wL0) <|
  rO (oPick lo8 (rdC (.bool true)) lo0) wL0 <|
  rO (oMove lo0) w104 <|
  rSkip) (rCond rd104 (rSeq (rO (oMove (rdC (.int 3 (.ofNat 1)))) w8 <|
  rSkip) rRet) (rSeq (rO (oMove rd12) wL0 <|
  rO (oNot lo0) wL0 <|
  rO (oMove lo0) w120 <|
  rSkip) (rCond rd120 (rSeq (rO (oMove (rdC (.int 3 (.ofNat 0)))) w8 <|
  rSkip) rRet) rSkip))))))))))))) (rSeq (rO (oFieldAddr 2 rd6) wL0 <|
  rO (oLoad1 lo0) wL0 <|
  rO (oLoad1 rd7) wL0 <|
  rO (oSliceV 4 lo1 none (some lo0)) wL0 <|
  rCall 294 [lo0] wL0 <|
  rO (oAlloc (mkCells [(.oth 1 0 [] [])])) w14 <|
  rO (oStore1 rd14 lo0) wN <|
  rSkip) (rSeq (rSeq (rO (oFieldAddr 3 rd9) wL0 <|
  rO (oLoad1 lo0) wL0 <|
  rO (oLenV lo0) wL0 <|
  rO (oFieldAddr 0 rd4) wL0 <|
  rO (oLoad1 lo0) wL0 <|
  rO (oMove rd10) wL0 <|
  rO (oFieldAddr 1 rd9) wL0 <|
  rO (oLoad1 lo0) wL0 <|
  rCallV lo2 [lo0] wL0 <|
  rChk (oLoad1 lo5) lo4 <|
  rChk (oLenV lo7) lo6 <|
  rChk (oLoad1 lo8) lo7 <|
  rO (oIndexAddrV 3 lo4 lo0) wL0 <|
  rO (oFieldAddr 1 lo0) wL0 <|
  rO (oLoad1 lo0) wL0 <|
  rO (oI ibNeq lo9 lo0) wL0 <|
  rO (oMove lo0) wL0 <|
  rG lo0 false wL0 (rO (oFieldAddr 3 rd9) wL0) <|
  rG lo1 false wL0 (rO (oLoad1 lo0) wL0) <|
  rG lo2 false wL0 (rO (oMkFn 295 [] [rd14]) wL0) <|
  rG lo3 false wL0 (rCall 200 [lo1, lo0] wL0) <|
  rO (oPick lo4 (rdC (.bool true)) lo0) w146 <|
  rSkip) (rCond rd146 (rSeq (rO (oMove (rdC (.int 3 (.ofNat 7)))) w8 <|
  rSkip) rRet) rSkip)) (rSeq (rO (oMove (rdC (.int 3 (.ofNat 0)))) w8 <|
  rSkip) rRet)))))))))
def d243 : DF := .mk [w0, w1, w2, w3] (resT rd8 resNil) c243
def c244 : Run :=
  (rSeq (rO (oBox rd0) w1 <|
  rO (oMove (rdC (.oth 6 0 [] []))) w2 <|
  rSkip) (rSeq (rO (oMkFn 296 [] [rd1]) wL0 <|
  rO (oMove lo0) w2 <|
  rSkip) rRet))
def d244 : DF := .mk [w0] (resT rd2 resNil) c244
def c245 : Run :=
  (rSeq (rO (oMove (rdC (.bool false))) w2 <|
  rSkip) (rSeq (rO (oMove rd0) wL0 <|
  rO (oLenS lo0) wL0 <|
  rO (oI ibGtr lo0 (rdC (.int 3 (.ofNat 0)))) wL0 <|
  rO (oMove lo0) wL0 <|
  rG lo0 true wL0 (rO (oMove rd0) wL0) <|
  rG lo1 true wL0 (rO (oLenS lo0) wL0) <|
  rG lo2 true wL0 (rO (oI ibLeq lo0 (rdC (.int 3 (.ofNat 8)))) wL0) <|
  rO (oPick lo3 lo0 (rdC (.bool false))) wL0 <|
  rO (oMove lo0) wL0 <|
  rG lo0 true wL0 (rO (oMove rd0) wL0) <|
  rG lo1 true wL0 (rCall 297 [lo0, (rdC (.str 26 196808924543273351654744084199064270893917454994213902225728097))] wL0) <|
  rG lo2 true wL0 (rO (oS sbEql lo0 (rdC (.str 0 0))) wL0) <|
  rO (oPick lo3 lo0 (rdC (.bool false))) wL0 <|
  rO (oMove lo0) w2 <|
  rSkip) rRet))
def d245 : DF := .mk [w0] (resT rd2 resNil) c245
def c246 : Run :=
  (rSeq (rO (oBox rd1) w3 <|
  rO (oMove (rdC (.bool false))) w4 <|
  rSkip) (rSeq (rO (oMove rd0) wL0 <|
  rO (oMkFn 298 [] [rd3]) wL0 <|
  rCall 200 [lo1, lo0] wL0 <|
  rO (oNot lo0) wL0 <|
  rO (oMove lo0) w4 <|
  rSkip) rRet))
def d246 : DF := .mk [w0, w1] (resT rd4 resNil) c246
def c247 : Run :=
  (rSeq (rO (oBox rd0) w1 <|
  rO (oMove (rdC (.int 3 (.ofNat 0)))) w2 <|
  rSkip) (rSeq (rO (oMkFn 299 [] [rd1]) wL0 <|
  rO (oAlloc (mkCells [(.oth 6 0 [] [])])) w3 <|
  rO (oStore1 rd3 lo0) wN <|
  rSkip) (rSeq (rBlock 0 (rSeq (rO (oFieldAddr 0 rd1) wL0 <|
  rO (oLoad1 lo0) wL0 <|
  rO (oLenV lo0) wL0 <|
  rO (oI ibLss lo0 (rdC (.int 3 (.ofNat 1)))) wL0 <|
  rO (oMove lo0) wL0 <|
  rG lo0 false wL0 (rO (oFieldAddr 0 rd1) wL0) <|
  rG lo1 false wL0 (rO (oLoad1 lo0) wL0) <|
  rG lo2 false wL0 (rO (oLenV lo0) wL0) <|
  rG lo3 false wL0 (rO (oI ibGtr lo0 (rdC (.int 3 (.ofNat 60)))) wL0) <|
  rO (oPick lo4 (rdC (.bool true)) lo0) wL0 <|
  rO (oMove lo0) wL0 <|
  rG lo0 false wL0 (rO (oFieldAddr 0 rd1) wL0) <|
  rG lo1 false wL0 (rO (oLoad1 lo0) wL0) <|
  rG lo2 false wL0 (rCall 300 [lo0, (rdC (.oth 4 301 [] []))] wL0) <|
  rG lo3 false wL0 (rO (oNot lo0) wL0) <|
  rO (oPick lo4 (rdC (.bool true)) lo0) wL0 <|
  rO (oMove lo0) w5 <|
  rSkip) (rCond rd5 (rSeq (rO (oMove (rdC (.int 3 (.ofNat 2)))) w2 <|
  rSkip) rRet) (rSeq (rO (oFieldAddr 0 rd1) wL0 <|
  rO (oLoad1 lo0) wL0 <|
  rCall 300 [lo0, (rdC (.oth 4 302 [] []))] wL0 <|
  rO (oNot lo0) wL0 <|
  rO (oMove lo0) w22 <|
  rSkip) (rCond rd22 (rSeq (rO (oMove (rdC (.int 3 (.ofNat 4)))) w2 <|
  rSkip) rRet) (rSeq (rO (oLoad1 rd3) wL0 <|
  rO (oFieldAddr 1 rd1) wL0 <|
  rO (oLoad1 lo0) wL0 <|
  rCallV lo2 [lo0] wL0 <|
  rO (oNot lo0) wL0 <|
  rO (oMove lo0) wL0 <|
  rG lo0 false wL0 (rO (oFieldAddr 0 rd1) wL0) <|
  rG lo1 false wL0 (rO (oLoad1 lo0) wL0) <|
  rG lo2 false wL0 (rO (oMkFn 304 [] [rd3]) wL0) <|
  rG lo3 false wL0 (rCall 300 [lo1, lo0] wL0) <|
  rG lo4 false wL0 (rO (oNot lo0) wL0) <|
  rO (oPick lo5 (rdC (.bool true)) lo0) wL0 <|
  rO (oMove lo0) w27 <|
  rSkip) (rCond rd27 (rSeq (rO (oMove (rdC (.int 3 (.ofNat 1)))) w2 <|
  rSkip) rRet) rSkip))))))) (rSeq (rO (oMove (rdC (.int 3 (.ofNat 0)))) w2 <|
  rSkip) rRet))))
def d247 : DF := .mk [w0] (resT rd2 resNil) c247
def c249 : Run :=
  (rSeq (rO (oMove (rdC (.int 3 (.ofNat 0)))) w4 <|
  rSkip) (rSeq (rSeq (rO (oMove rd0) wL0 <|
  rO (oLenV lo0) w7 <|
  rO (oMove (rdC (.int 3 (.ofNat 0)))) w8 <|
  rSkip) (rBlock 0 (rLoop (rSeq (rO (oI ibLss rd8 rd7) w9 <|
  rSkip) (rSeq (rCond rd9 rSkip (rExit 0)) (rSeq (rBlock 1 (rSeq (rO (oMove rd8) wL0 <|
  rO (oMove lo0) w5 <|
  rSkip) (rSeq (rO (oMove rd1) wL0 <|
  rO (oMove rd0) wL0 <|
  rO (oMove rd5) wL0 <|
  rO (oIndexAddrV 1 lo1 lo0) wL0 <|
  rO (oLoad1 lo0) wL0 <|
  rCallV lo4 [lo0] w16 <|
  rSkip) (rCond rd16 (rSeq (rO (oMove rd5) wL0 <|
  rO (oMove lo0) w4 <|
  rSkip) rRet) rSkip)))) (rO (oI ibAdd rd8 (rdC (.int 3 (.ofNat 1)))) wL0 <|
  rO (oMove lo0) w8 <|
  rSkip))))))) (rSeq (rO (oMove (rdC (.int 3 (.negSucc 0)))) w4 <|
  rSkip) rRet)))
def d249 : DF := .mk [w0, w1] (resT rd4 resNil) c249
def c250 : Run :=
  (rSeq (rO (oMove (rdC (.bool false))) w8 <|
  rSkip) (rSeq (rO (oLoadN 14 rd2) wL0 <|
  rO (oMove rd1) wL0 <|
  rCall 251 [lo1, lo0] wL0 <|
  rO (oMove lo0) wL0 <|
  rO (oExtract 0 lo0) wL0 <|
  rO (oExtract 1 lo1) wL0 <|
  rO (oMove lo1) w9 <|
  rO (oMove lo0) w10 <|
  rSkip) (rSeq (rSeq (rO (oMove rd10) wL0 <|
  rO (oNot lo0) w21 <|
  rSkip) (rCond rd21 (rSeq (rO (oMove (rdC (.bool false))) w8 <|
  rSkip) rRet) rSkip)) (rSeq (rSeq (rO (oLoad1 rd3) wL0 <|
  rO (oMove rd0) wL0 <|
  rO (oMove rd9) wL0 <|
  rO (oBuild [(.int 3 (.ofNat 0)), (.int 3 (.ofNat 0))] [(0, 1, lo1), (1, 1, lo0)]) wL0 <|
  rO (oLookup 137 (.bool false) lo3 lo0) w26 <|
  rSkip) (rCond rd26 (rSeq (rO (oMove (rdC (.bool true))) w8 <|
  rSkip) rRet) rSkip)) (rSeq (rO (oLoad1 rd3) wL0 <|
  rO (oMove rd0) wL0 <|
  rO (oMove rd9) wL0 <|
  rO (oBuild [(.int 3 (.ofNat 0)), (.int 3 (.ofNat 0))] [(0, 1, lo1), (1, 1, lo0)]) wL0 <|
  rO (oMapUpd 137 lo3 lo0 (rdC (.bool true))) wN <|
  rSkip) (rSeq (rO (oFieldAddr 0 rd4) wL0 <|
  rO (oLoad1 lo0) wL0 <|
  rO (oMove rd0) wL0 <|
  rO (oIndexAddrV 2 lo1 lo0) wL0 <|
  rO (oLoadN 2 lo0) wL0 <|
  rO (oFieldAddr 0 rd2) wL0 <|
  rO (oFieldAddr 0 lo0) wL0 <|
  rO (oLoad1 lo0) wL0 <|
  rO (oMove rd9) wL0 <|
  rO (oIndexAddrV 2 lo1 lo0) wL0 <|
  rO (oLoadN 2 lo0) wL0 <|
  rO (oAlloc (mkCells [(.str 0 0), (.oth 1 0 [] [])])) w11 <|
  rO (oAlloc (mkCells [(.str 0 0), (.oth 1 0 [] [])])) w12 <|
  rO (oStoreN 2 rd11 lo6) wN <|
  rChk (oLoadN 2 lo1) lo0 <|
  rChk (oLoad1 lo4) lo3 <|
  rO (oStoreN 2 rd12 lo0) wN <|
  rSkip) (rSeq (rSeq (rO (oFieldAddr 0 rd11) wL0 <|
  rO (oLoad1 lo0) wL0 <|
  rO (oFieldAddr 0 rd12) wL0 <|
  rO (oLoad1 lo0) wL0 <|
  rO (oS sbNeq lo2 lo0) wL0 <|
  rO (oMove lo0) wL0 <|
  rG lo0 false wL0 (rO (oFieldAddr 1 rd11) wL0) <|
  rG lo1 false wL0 (rO (oLoad1 lo0) wL0) <|
  rG lo2 false wL0 (rO (oLenV lo0) wL0) <|
  rG lo3 false wL0 (rO (oFieldAddr 1 rd12) wL0) <|
  rG lo4 false wL0 (rO (oLoad1 lo0) wL0) <|
  rG lo5 false wL0 (rO (oLenV lo0) wL0) <|
  rG lo6 false wL0 (rO (oI ibNeq lo3 lo0) wL0) <|
  rO (oPick lo7 (rdC (.bool true)) lo0) w55 <|
  rSkip) (rCond rd55 (rSeq (rO (oMove (rdC (.bool false))) w8 <|
  rSkip) rRet) rSkip)) (rSeq (rSeq (rO (oFieldAddr 1 rd11) wL0 <|
  rO (oLoad1 lo0) wL0 <|
  rO (oLenV lo0) w58 <|
  rO (oMove (rdC (.int 3 (.ofNat 0)))) w59 <|
  rSkip) (rBlock 0 (rLoop (rSeq (rO (oI ibLss rd59 rd58) w60 <|
  rSkip) (rSeq (rCond rd60 rSkip (rExit 0)) (rSeq (rBlock 1 (rSeq (rO (oMove rd59) wL0 <|
  rO (oMove lo0) w13 <|
  rSkip) (rSeq (rO (oLoad1 rd5) wL0 <|
  rO (oFieldAddr 1 rd11) wL0 <|
  rO (oLoad1 lo0) wL0 <|
  rO (oMove rd13) wL0 <|
  rO (oIndexAddrV 1 lo1 lo0) wL0 <|
  rO (oLoad1 lo0) wL0 <|
  rO (oFieldAddr 1 rd12) wL0 <|
  rO (oLoad1 lo0) wL0 <|
  rO (oMove rd13) wL0 <|
  rO (oIndexAddrV 1 lo1 lo0) wL0 <|
  rO (oLoad1 lo0) wL0 <|
  rCallV lo10 [lo5, lo0] wL0 <|
  rO (oNot lo0) w74 <|
  rSkip) (rCond rd74 (rSeq (rO (oMove (rdC (.bool false))) w8 <|
  rSkip) rRet) rSkip)))) (rO (oI ibAdd rd59 (rdC (.int 3 (.ofNat 1)))) wL0 <|
  rO (oMove lo0) w59 <|
  rSkip))))))) (rSeq (rO (oMove (rdC (.bool true))) w8 <|
  rSkip) rRet)))))))))
def d250 : DF := .mk [w0, w1, w2, w3, w4, w5] (resT rd8 resNil) c250
def c251 : Run :=
  (rSeq (rO (oBox rd0) w2 <|
  rO (oMove (rdC (.int 3 (.ofNat 0)))) w4 <|
  rO (oMove (rdC (.bool false))) w5 <|
  rSkip) (rSeq (rSeq (rO (oFieldAddr 0 rd2) wL0 <|
  rO (oFieldAddr 1 lo0) wL0 <|
  rO (oLoad1 lo0) wL0 <|
  rO (oLenV lo0) wL0 <|
  rO (oI ibAdd lo0 (rdC (.int 3 (.ofNat 1)))) w11 <|
  rO (oMove (rdC (.int 3 (.ofNat 0)))) w12 <|
  rSkip) (rBlock 0 (rLoop (rSeq (rO (oI ibLss rd12 rd11) w13 <|
  rSkip) (rSeq (rCond rd13 rSkip (rExit 0)) (rSeq (rBlock 1 (rSeq (rSeq (rO (oMove rd1) wL0 <|
  rO (oI ibGeq lo0 (rdC (.int 3 (.ofNat 0)))) w15 <|
  rSkip) (rCond rd15 (rSeq (rO (oMove rd1) wL0 <|
  rO (oMove lo0) w4 <|
  rO (oMove (rdC (.bool true))) w5 <|
  rSkip) rRet) rSkip)) (rSeq (rO (oFieldAddr 0 rd2) wL0 <|
  rO (oFieldAddr 1 lo0) wL0 <|
  rO (oLoad1 lo0) wL0 <|
  rO (oMove rd1) wL0 <|
  rO (oNeg lo0) wL0 <|
  rO (oI ibSub lo0 (rdC (.int 3 (.ofNat 1)))) wL0 <|
  rO (oIndexAddrV 5 lo3 lo0) wL0 <|
  rO (oLoadN 5 lo0) wL0 <|
  rO (oAlloc (mkCells [(.int 3 (.ofNat 0)), (.int 3 (.ofNat 0)), (.oth 1 0 [] []), (.bool false), (.int 3 (.ofNat 0))])) w6 <|
  rO (oStoreN 5 rd6 lo0) wN <|
  rSkip) (rSeq (rSeq (rO (oFieldAddr 3 rd6) wL0 <|
  rO (oLoad1 lo0) wL0 <|
  rO (oNot lo0) w27 <|
  rSkip) (rCond rd27 (rSeq (rO (oMove (rdC (.int 3 (.ofNat 0)))) w4 <|
  rO (oMove (rdC (.bool false))) w5 <|
  rSkip) rRet) rSkip)) (rO (oFieldAddr 4 rd6) wL0 <|
  rO (oLoad1 lo0) wL0 <|
  rO (oMove lo0) w1 <|
  rSkip))))) (rO (oI ibAdd rd12 (rdC (.int 3 (.ofNat 1)))) wL0 <|
  rO (oMove lo0) w12 <|
  rSkip))))))) (rSeq (rO (oMove (rdC (.int 3 (.ofNat 0)))) w4 <|
  rO (oMove (rdC (.bool false))) w5 <|
  rSkip) rRet)))
def d251 : DF := .mk [w0, w1] (resT rd4 (resT rd5 resNil)) c251
def c252 : Run :=
  (rSeq (rO (oMove (rdC (.bool true))) w8 <|
  rSkip) (rSeq (rO (oMove (rdC (.bool true))) w9 <|
  rSkip) (rBlock 0 (rLoop (rBlock 1 (rSeq (rO (oMove rd2) wL0 <|
  rO (oMove rd1) wL0 <|
  rO (oI ibSub lo1 lo0) wL0 <|
  rO (oMove lo0) w10 <|
  rSkip) (rSeq (rSeq (rO (oMove rd10) wL0 <|
  rO (oI ibLeq lo0 (rdC (.int 3 (.ofNat 12)))) w23 <|
  rSkip) (rCond rd23 (rSeq (rO (oMove rd0) wL0 <|
  rO (oMove rd1) wL0 <|
  rO (oMove rd2) wL0 <|
  rCall 306 [lo2, lo1, lo0] wL0 <|
  rSkip) rRet) rSkip)) (rSeq (rSeq (rO (oMove rd3) wL0 <|
  rO (oI ibEql lo0 (rdC (.int 3 (.ofNat 0)))) w29 <|
  rSkip) (rCond rd29 (rSeq (rO (oMove rd0) wL0 <|
  rO (oMove rd1) wL0 <|
  rO (oMove rd2) wL0 <|
  rCall 307 [lo2, lo1, lo0] wL0 <|
  rSkip) rRet) rSkip)) (rSeq (rSeq (rO (oMove rd8) wL0 <|
  rO (oNot lo0) w35 <|
  rSkip) (rCond rd35 (rSeq (rO (oMove rd0) wL0 <|
  rO (oMove rd1) wL0 <|
  rO (oMove rd2) wL0 <|
  rCall 308 [lo2, lo1, lo0] wL0 <|
  rSkip) (rO (oMove rd3) wL0 <|
  rO (oI ibSub lo0 (rdC (.int 3 (.ofNat 1)))) wL0 <|
  rO (oMove lo0) w3 <|
  rSkip)) rSkip)) (rSeq (rO (oMove rd0) wL0 <|
  rO (oMove rd1) wL0 <|
  rO (oMove rd2) wL0 <|
  rCall 309 [lo2, lo1, lo0] wL0 <|
  rO (oMove lo0) wL0 <|
  rO (oExtract 0 lo0) wL0 <|
  rO (oExtract 1 lo1) wL0 <|
  rO (oMove lo1) w11 <|
  rO (oMove lo0) w12 <|
  rSkip) (rSeq (rSeq (rO (oMove rd12) wL0 <|
  rO (oI ibEql lo0 (rdC (.int 3 (.ofNat 2)))) w50 <|
  rSkip) (rCond rd50 (rSeq (rO (oMove rd0) wL0 <|
  rO (oMove rd1) wL0 <|
  rO (oMove rd2) wL0 <|
  rCall 310 [lo2, lo1, lo0] wL0 <|
  rSkip) (rSeq (rO (oMove rd2) wL0 <|
  rO (oI ibSub lo0 (rdC (.int 3 (.ofNat 1)))) wL0 <|
  rO (oMove rd11) wL0 <|
  rO (oMove rd1) wL0 <|
  rO (oI ibSub lo1 lo0) wL0 <|
  rO (oI ibSub lo3 lo0) wL0 <|
  rO (oMove lo0) w11 <|
  rSkip) (rO (oMove (rdC (.int 3 (.ofNat 1)))) w12 <|
  rSkip))) rSkip)) (rSeq (rSeq (rO (oMove rd8) wL0 <|
  rO (oMove lo0) wL0 <|
  rG lo0 true wL0 (rO (oMove rd9) wL0) <|
  rO (oPick lo1 lo0 (rdC (.bool false))) wL0 <|
  rO (oMove lo0) wL0 <|
  rG lo0 true wL0 (rO (oMove rd12) wL0) <|
  rG lo1 true wL0 (rO (oI ibEql lo0 (rdC (.int 3 (.ofNat 1)))) wL0) <|
  rO (oPick lo2 lo0 (rdC (.bool false))) w68 <|
  rSkip) (rCond rd68 (rSeq (rO (oMove rd0) wL0 <|
  rO (oMove rd1) wL0 <|
  rO (oMove rd2) wL0 <|
  rCall 311 [lo2, lo1, lo0] w72 <|
  rSkip) (rCond rd72 rRet rSkip)) rSkip)) (rSeq (rSeq (rO (oMove rd1) wL0 <|
  rO (oI ibGtr lo0 (rdC (.int 3 (.ofNat 0)))) wL0 <|
  rO (oMove lo0) wL0 <|
  rG lo0 true wL0 (rO (oMove rd0) wL0) <|
  rG lo1 true wL0 (rO (oMove rd1) wL0) <|
  rG lo2 true wL0 (rO (oI ibSub lo0 (rdC (.int 3 (.ofNat 1)))) wL0) <|
  rG lo3 true wL0 (rO (oIndexAddrV 1 lo2 lo0) wL0) <|
  rG lo4 true wL0 (rO (oLoad1 lo0) wL0) <|
  rG lo5 true wL0 (rO (oMove rd0) wL0) <|
  rG lo6 true wL0 (rO (oMove rd11) wL0) <|
  rG lo7 true wL0 (rO (oIndexAddrV 1 lo1 lo0) wL0) <|
  rG lo8 true wL0 (rO (oLoad1 lo0) wL0) <|
  rG lo9 true wL0 (rCall 312 [lo4, lo0] wL0) <|
  rG lo10 true wL0 (rO (oNot lo0) wL0) <|
  rO (oPick lo11 lo0 (rdC (.bool false))) w87 <|
  rSkip) (rCond rd87 (rSeq (rO (oMove rd0) wL0 <|
  rO (oMove rd1) wL0 <|
  rO (oMove rd2) wL0 <|
  rO (oMove rd11) wL0 <|
  rCall 313 [lo3, lo2, lo1, lo0] wL0 <|
  rO (oMove lo0) w13 <|
  rSkip) (rSeq (rO (oMove rd13) wL0 <|
  rO (oMove lo0) w1 <|
  rSkip) (rExit 1))) rSkip)) (rSeq (rO (oMove rd0) wL0 <|
  rO (oMove rd1) wL0 <|
  rO (oMove rd2) wL0 <|
  rO (oMove rd11) wL0 <|
  rCall 314 [lo3, lo2, lo1, lo0] wL0 <|
  rO (oMove lo0) wL0 <|
  rO (oExtract 0 lo0) wL0 <|
  rO (oExtract 1 lo1) wL0 <|
  rO (oMove lo1) w14 <|
  rO (oMove lo0) w15 <|
  rSkip) (rSeq (rO (oMove rd15) wL0 <|
  rO (oMove lo0) w9 <|
  rSkip) (rSeq (rO (oMove rd14) wL0 <|
  rO (oMove rd1) wL0 <|
  rO (oI ibSub lo1 lo0) wL0 <|
  rO (oMove rd2) wL0 <|
  rO (oMove rd14) wL0 <|
  rO (oI ibSub lo1 lo0) wL0 <|
  rO (oMove lo3) w16 <|
  rO (oMove lo0) w17 <|
  rSkip) (rSeq (rO (oMove rd10) wL0 <|
  rO (oI ibQuo lo0 (rdC (.int 3 (.ofNat 8)))) wL0 <|
  rO (oMove lo0) w18 <|
  rSkip) (rSeq (rO (oMove rd16) wL0 <|
  rO (oMove rd17) wL0 <|
  rO (oI ibLss lo1 lo0) w113 <|
  rSkip) (rCond rd113 (rSeq (rO (oMove rd16) wL0 <|
  rO (oMove rd18) wL0 <|
  rO (oI ibGeq lo1 lo0) wL0 <|
  rO (oMove lo0) w8 <|
  rSkip) (rSeq (rO (oMove rd0) wL0 <|
  rO (oMove rd1) wL0 <|
  rO (oMove rd14) wL0 <|
  rO (oMove rd3) wL0 <|
  rCall 252 [lo3, lo2, lo1, lo0] wL0 <|
  rSkip) (rO (oMove rd14) wL0 <|
  rO (oI ibAdd lo0 (rdC (.int 3 (.ofNat 1)))) wL0 <|
  rO (oMove lo0) w1 <|
  rSkip))) (rSeq (rO (oMove rd17) wL0 <|
  rO (oMove rd18) wL0 <|
  rO (oI ibGeq lo1 lo0) wL0 <|
  rO (oMove lo0) w8 <|
  rSkip) (rSeq (rO (oMove rd0) wL0 <|
  rO (oMove rd14) wL0 <|
  rO (oI ibAdd lo0 (rdC (.int 3 (.ofNat 1)))) wL0 <|
  rO (oMove rd2) wL0 <|
  rO (oMove rd3) wL0 <|
  rCall 252 [lo4, lo2, lo1, lo0] wL0 <|
  rSkip) (rO (oMove rd14) wL0 <|
  rO (oMove lo0) w2 <|
  rSkip))))))))))))))))))))))
def d252 : DF := .mk [w0, w1, w2, w3] resNil c252
def c253 : Run :=
  (rSeq (rO (oMove (rdC (.int 3 (.ofNat 0)))) w2 <|
  rSkip) (rSeq (rCond (rdC (.bool false)) (rSeq (rO (oMove rd0) wL0 <|
  rO (oConv 6 lo0) wL0 <|
  rCall 315 [lo0] wL0 <|
  rO (oMove lo0) w2 <|
  rSkip) rRet) rSkip) (rSeq (rO (oMove rd0) wL0 <|
  rCall 316 [lo0] wL0 <|
  rO (oMove lo0) w2 <|
  rSkip) rRet)))
def d253 : DF := .mk [w0] (resT rd2 resNil) c253
def c262 : Run :=
  (rSeq (rO (oMove (rdC (.int 3 (.ofNat 0)))) w2 <|
  rSkip) (rSeq (rO (oMove rd0) wL0 <|
  rCall 319 [lo0, (rdC (.oth 4 320 [] []))] wL0 <|
  rO (oMove lo0) wL0 <|
  rO (oExtract 0 lo0) wL0 <|
  rO (oExtract 1 lo1) wL0 <|
  rO (oAlloc (mkCells [(.oth 1 0 [] []), (.int 3 (.ofNat 0))])) w3 <|
  rO (oStoreN 2 rd3 lo1) wN <|
  rO (oMove lo0) w4 <|
  rSkip) (rSeq (rSeq (rO (oMove rd4) wL0 <|
  rO (oNot lo0) w11 <|
  rSkip) (rCond rd11 (rSeq (rO (oMove (rdC (.int 3 (.ofNat 0)))) w2 <|
  rSkip) rRet) rSkip)) (rSeq (rO (oLoadN 2 rd3) wL0 <|
  rCall 247 [lo0] wL0 <|
  rO (oMove lo0) w2 <|
  rSkip) rRet))))
def d262 : DF := .mk [w0] (resT rd2 resNil) c262
def c263 : Run :=
  (rSeq (rO (oMove (rdC (.oth 1 0 [] []))) w4 <|
  rSkip) (rSeq (rO (oMove rd0) wL0 <|
  rO (oLenV lo0) wL0 <|
  rO (oMkSlice [(.bool false)] lo0 lo0) wL0 <|
  rO (oMove lo0) w5 <|
  rSkip) (rSeq (rO (oMove (rdC (.oth 1 0 [] []))) w6 <|
  rSkip) (rSeq (rSeq (rO (oMove rd1) w15 <|
  rO (oLenV rd15) w16 <|
  rO (oMove (rdC (.int 3 (.ofNat 0)))) w17 <|
  rSkip) (rBlock 0 (rLoop (rSeq (rO (oI ibLss rd17 rd16) w18 <|
  rSkip) (rSeq (rCond rd18 rSkip (rExit 0)) (rSeq (rBlock 1 (rSeq (rO (oIndexAddrV 1 rd15 rd17) wL0 <|
  rO (oLoad1 lo0) wL0 <|
  rO (oMove lo0) w8 <|
  rSkip) (rSeq (rO (oMove rd6) wL0 <|
  rO (oLenV lo0) wL0 <|
  rO (oMove lo0) w9 <|
  rSkip) (rSeq (rSeq (rO (oMove rd5) wL0 <|
  rO (oMove rd8) wL0 <|
  rO (oIndexAddrV 1 lo1 lo0) wL0 <|
  rO (oLoad1 lo0) wL0 <|
  rO (oNot lo0) w27 <|
  rSkip) (rCond rd27 (rSeq (rO (oMove rd5) wL0 <|
  rO (oMove rd8) wL0 <|
  rO (oIndexAddrV 1 lo1 lo0) wL0 <|
  rO (oStore1 lo0 (rdC (.bool true))) wN <|
  rSkip) (rO (oMove rd6) wL0 <|
  rO (oMove rd8) wL0 <|
  rO (oBuildSlice 1 [(.int 3 (.ofNat 0))] [(0, 1, lo0)]) wL0 <|
  rO (oAppend 1 lo2 lo0) wL0 <|
  rO (oMove lo0) w6 <|
  rSkip)) rSkip)) (rBlock 2 (rLoop (rSeq (rSeq (rO (oMove rd9) wL0 <|
  rO (oMove rd6) wL0 <|
  rO (oLenV lo0) wL0 <|
  rO (oI ibLss lo2 lo0) w38 <|
  rSkip) (rCond rd38 rSkip (rExit 2))) (rSeq (rBlock 3 (rSeq (rO (oMove rd0) wL0 <|
  rO (oMove rd6) wL0 <|
  rO (oMove rd9) wL0 <|
  rO (oIndexAddrV 1 lo1 lo0) wL0 <|
  rO (oLoad1 lo0) wL0 <|
  rO (oIndexAddrV 2 lo4 lo0) wL0 <|
  rO (oFieldAddr 1 lo0) wL0 <|
  rO (oLoad1 lo0) w48 <|
  rO (oLenV rd48) w49 <|
  rO (oMove (rdC (.int 3 (.ofNat 0)))) w50 <|
  rSkip) (rBlock 4 (rLoop (rSeq (rO (oI ibLss rd50 rd49) w51 <|
  rSkip) (rSeq (rCond rd51 rSkip (rExit 4)) (rSeq (rBlock 5 (rSeq (rO (oIndexAddrV 1 rd48 rd50) wL0 <|
  rO (oLoad1 lo0) wL0 <|
  rO (oMove lo0) w11 <|
  rSkip) (rSeq (rO (oMove rd5) wL0 <|
  rO (oMove rd11) wL0 <|
  rO (oIndexAddrV 1 lo1 lo0) wL0 <|
  rO (oLoad1 lo0) wL0 <|
  rO (oNot lo0) w58 <|
  rSkip) (rCond rd58 (rSeq (rO (oMove rd5) wL0 <|
  rO (oMove rd11) wL0 <|
  rO (oIndexAddrV 1 lo1 lo0) wL0 <|
  rO (oStore1 lo0 (rdC (.bool true))) wN <|
  rSkip) (rO (oMove rd6) wL0 <|
  rO (oMove rd11) wL0 <|
  rO (oBuildSlice 1 [(.int 3 (.ofNat 0))] [(0, 1, lo0)]) wL0 <|
  rO (oAppend 1 lo2 lo0) wL0 <|
  rO (oMove lo0) w6 <|
  rSkip)) rSkip)))) (rO (oI ibAdd rd50 (rdC (.int 3 (.ofNat 1)))) wL0 <|
  rO (oMove lo0) w50 <|
  rSkip)))))))) (rO (oMove rd9) wL0 <|
  rO (oI ibAdd lo0 (rdC (.int 3 (.ofNat 1)))) wL0 <|
  rO (oMove lo0) w9 <|
  rSkip))))))))) (rO (oI ibAdd rd17 (rdC (.int 3 (.ofNat 1)))) wL0 <|
  rO (oMove lo0) w17 <|
  rSkip))))))) (rSeq (rO (oMove rd6) wL0 <|
  rO (oMove lo0) w4 <|
  rSkip) rRet)))))
def d263 : DF := .mk [w0, w1] (resT rd4 resNil) c263
def c264 : Run :=
  (rSeq (rO (oMove (rdC (.oth 1 0 [] []))) w4 <|
  rO (oMove (rdC (.int 3 (.ofNat 0)))) w5 <|
  rSkip) (rSeq (rO (oMove rd0) wL0 <|
  rO (oLenV lo0) wL0 <|
  rO (oMkSlice [(.int 3 (.ofNat 0))] lo0 lo0) wL0 <|
  rO (oMove lo0) w6 <|
  rSkip) (rSeq (rO (oMove (rdC (.int 3 (.ofNat 1)))) w7 <|
  rSkip) (rBlock 0 (rLoop (rBlock 1 (rSeq (rO (oMove rd0) wL0 <|
  rO (oLenV lo0) wL0 <|
  rO (oMkSlice [(.int 3 (.ofNat 0))] lo0 lo0) wL0 <|
  rO (oMove lo0) w8 <|
  rSkip) (rSeq (rSeq (rO (oMove rd8) wL0 <|
  rO (oLenV lo0) w25 <|
  rO (oMove (rdC (.int 3 (.ofNat 0)))) w26 <|
  rSkip) (rBlock 2 (rLoop (rSeq (rO (oI ibLss rd26 rd25) w27 <|
  rSkip) (rSeq (rCond rd27 rSkip (rExit 2)) (rSeq (rBlock 3 (rSeq (rO (oMove rd26) wL0 <|
  rO (oMove lo0) w9 <|
  rSkip) (rO (oMove rd8) wL0 <|
  rO (oMove rd9) wL0 <|
  rO (oIndexAddrV 1 lo1 lo0) wL0 <|
  rO (oStore1 lo0 (rdC (.int 3 (.negSucc 0)))) wN <|
  rSkip))) (rO (oI ibAdd rd26 (rdC (.int 3 (.ofNat 1)))) wL0 <|
  rO (oMove lo0) w26 <|
  rSkip))))))) (rSeq (rO (oMkMap 8947859) wL0 <|
  rO (oMove lo0) w10 <|
  rSkip) (rSeq (rSeq (rO (oMove rd1) w34 <|
  rO (oLenV rd34) w35 <|
  rO (oMove (rdC (.int 3 (.ofNat 0)))) w36 <|
  rSkip) (rBlock 4 (rLoop (rSeq (rO (oI ibLss rd36 rd35) w37 <|
  rSkip) (rSeq (rCond rd37 rSkip (rExit 4)) (rSeq (rBlock 5 (rSeq (rO (oIndexAddrV 1 rd34 rd36) wL0 <|
  rO (oLoad1 lo0) wL0 <|
  rO (oMove lo0) w12 <|
  rSkip) (rSeq (rO (oMove rd0) wL0 <|
  rO (oMove rd12) wL0 <|
  rO (oIndexAddrV 2 lo1 lo0) wL0 <|
  rO (oFieldAddr 0 lo0) wL0 <|
  rO (oLoad1 lo0) wL0 <|
  rO (oMove rd0) wL0 <|
  rO (oMove rd12) wL0 <|
  rO (oIndexAddrV 2 lo1 lo0) wL0 <|
  rO (oFieldAddr 1 lo0) wL0 <|
  rO (oLoad1 lo0) wL0 <|
  rO (oLenV lo0) wL0 <|
  rO (oBuild [(.str 0 0), (.int 3 (.ofNat 0)), (.int 3 (.ofNat 0)), (.int 3 (.ofNat 0)), (.int 3 (.ofNat 0)), (.int 3 (.ofNat 0))] [(0, 1, lo6), (1, 1, lo0)]) wL0 <|
  rO (oAlloc (mkCells [(.str 0 0), (.int 3 (.ofNat 0)), (.int 3 (.ofNat 0)), (.int 3 (.ofNat 0)), (.int 3 (.ofNat 0)), (.int 3 (.ofNat 0))])) w13 <|
  rO (oStoreN 6 rd13 lo0) wN <|
  rSkip) (rSeq (rSeq (rO (oMove rd0) wL0 <|
  rO (oMove rd12) wL0 <|
  rO (oIndexAddrV 2 lo1 lo0) wL0 <|
  rO (oFieldAddr 1 lo0) wL0 <|
  rO (oLoad1 lo0) w56 <|
  rO (oLenV rd56) w57 <|
  rO (oMove (rdC (.int 3 (.ofNat 0)))) w58 <|
  rSkip) (rBlock 6 (rLoop (rSeq (rO (oI ibLss rd58 rd57) w59 <|
  rSkip) (rSeq (rCond rd59 rSkip (rExit 6)) (rSeq (rBlock 7 (rSeq (rO (oMove rd58) wL0 <|
  rO (oIndexAddrV 1 rd56 rd58) wL0 <|
  rO (oLoad1 lo0) wL0 <|
  rO (oMove lo2) w14 <|
  rO (oMove lo0) w15 <|
  rSkip) (rO (oMove rd14) wL0 <|
  rO (oMove rd6) wL0 <|
  rO (oMove rd15) wL0 <|
  rO (oIndexAddrV 1 lo1 lo0) wL0 <|
  rO (oLoad1 lo0) wL0 <|
  rO (oFieldAddr 2 rd13) wL0 <|
  rO (oIndexAddrA 4 1 lo0 lo5) wL0 <|
  rO (oStore1 lo0 lo2) wN <|
  rSkip))) (rO (oI ibAdd rd58 (rdC (.int 3 (.ofNat 1)))) wL0 <|
  rO (oMove lo0) w58 <|
  rSkip))))))) (rSeq (rO (oMove rd10) wL0 <|
  rO (oLoadN 6 rd13) wL0 <|
  rO (oLookupOk 8947859 (.int 3 (.ofNat 0)) lo1 lo0) wL0 <|
  rO (oMove lo0) wL0 <|
  rO (oExtract 0 lo0) wL0 <|
  rO (oExtract 1 lo1) wL0 <|
  rO (oMove lo1) w16 <|
  rO (oMove lo0) w17 <|
  rSkip) (rSeq (rSeq (rO (oMove rd17) wL0 <|
  rO (oNot lo0) w78 <|
  rSkip) (rCond rd78 (rSeq (rO (oMove rd10) wL0 <|
  rO (oLenM lo0) wL0 <|
  rO (oMove lo0) w16 <|
  rSkip) (rO (oMove rd10) wL0 <|
  rO (oLoadN 6 rd13) wL0 <|
  rO (oMove rd16) wL0 <|
  rO (oMapUpd 8947859 lo2 lo1 lo0) wN <|
  rSkip)) rSkip)) (rO (oMove rd8) wL0 <|
  rO (oMove rd12) wL0 <|
  rO (oMove rd16) wL0 <|
  rO (oIndexAddrV 1 lo2 lo1) wL0 <|
  rO (oStore1 lo0 lo1) wN <|
  rSkip))))))) (rO (oI ibAdd rd36 (rdC (.int 3 (.ofNat 1)))) wL0 <|
  rO (oMove lo0) w36 <|
  rSkip))))))) (rSeq (rSeq (rO (oMove rd10) wL0 <|
  rO (oLenM lo0) wL0 <|
  rO (oMove rd7) wL0 <|
  rO (oI ibEql lo1 lo0) w92 <|
  rSkip) (rCond rd92 (rSeq (rO (oMove rd8) wL0 <|
  rO (oMove rd7) wL0 <|
  rO (oMove lo1) w4 <|
  rO (oMove lo0) w5 <|
  rSkip) rRet) rSkip)) (rO (oMove rd8) wL0 <|
  rO (oMove rd10) wL0 <|
  rO (oLenM lo0) wL0 <|
  rO (oMove lo2) w6 <|
  rO (oMove lo0) w7 <|
  rSkip))))))))))))
def d264 : DF := .mk [w0, w1] (resT rd4 (resT rd5 resNil)) c264
def c265 : Run :=
  (rSeq (rO (oAlloc (mkCells [(.oth 1 0 [] []), (.int 3 (.ofNat 0))])) w8 <|
  rSkip) (rSeq (rO (oMove rd3) wL0 <|
  rO (oMkSlice [(.str 0 0), (.oth 1 0 [] [])] lo0 lo0) wL0 <|
  rO (oBuild [(.oth 1 0 [] []), (.int 3 (.ofNat 0))] [(0, 1, lo0)]) wL0 <|
  rO (oAlloc (mkCells [(.oth 1 0 [] []), (.int 3 (.ofNat 0))])) w9 <|
  rO (oStoreN 2 rd9 lo0) wN <|
  rSkip) (rSeq (rSeq (rO (oMove rd1) w18 <|
  rO (oLenV rd18) w19 <|
  rO (oMove (rdC (.int 3 (.ofNat 0)))) w20 <|
  rSkip) (rBlock 0 (rLoop (rSeq (rO (oI ibLss rd20 rd19) w21 <|
  rSkip) (rSeq (rCond rd21 rSkip (rExit 0)) (rSeq (rBlock 1 (rSeq (rO (oIndexAddrV 1 rd18 rd20) wL0 <|
  rO (oLoad1 lo0) wL0 <|
  rO (oMove lo0) w11 <|
  rSkip) (rSeq (rO (oFieldAddr 0 rd9) wL0 <|
  rO (oLoad1 lo0) wL0 <|
  rO (oMove rd2) wL0 <|
  rO (oMove rd11) wL0 <|
  rO (oIndexAddrV 1 lo1 lo0) wL0 <|
  rO (oLoad1 lo0) wL0 <|
  rO (oIndexAddrV 2 lo4 lo0) wL0 <|
  rO (oMove lo0) w12 <|
  rSkip) (rSeq (rSeq (rO (oMove rd12) wL0 <|
  rO (oNilCheck lo0) wL0 <|
  rO (oFieldAddr 0 lo0) wL0 <|
  rO (oLoad1 lo0) wL0 <|
  rO (oS sbNeq lo0 (rdC (.str 0 0))) w35 <|
  rSkip) (rCond rd35 (rExit 1) rSkip)) (rSeq (rO (oMove rd12) wL0 <|
  rO (oMove rd0) wL0 <|
  rO (oMove rd11) wL0 <|
  rO (oIndexAddrV 2 lo1 lo0) wL0 <|
  rO (oFieldAddr 0 lo0) wL0 <|
  rO (oLoad1 lo0) wL0 <|
  rO (oNilCheck lo5) wL0 <|
  rO (oFieldAddr 0 lo0) wL0 <|
  rO (oStore1 lo0 lo2) wN <|
  rSkip) (rSeq (rO (oMove rd12) wL0 <|
  rO (oMove rd0) wL0 <|
  rO (oMove rd11) wL0 <|
  rO (oIndexAddrV 2 lo1 lo0) wL0 <|
  rO (oFieldAddr 1 lo0) wL0 <|
  rO (oLoad1 lo0) wL0 <|
  rO (oLenV lo0) wL0 <|
  rO (oMkSlice [(.int 3 (.ofNat 0))] lo0 lo0) wL0 <|
  rO (oNilCheck lo7) wL0 <|
  rO (oFieldAddr 1 lo0) wL0 <|
  rO (oStore1 lo0 lo2) wN <|
  rSkip) (rSeq (rO (oMove rd12) wL0 <|
  rO (oNilCheck lo0) wL0 <|
  rO (oFieldAddr 1 lo0) wL0 <|
  rO (oLoad1 lo0) wL0 <|
  rO (oMove rd0) wL0 <|
  rO (oMove rd11) wL0 <|
  rO (oIndexAddrV 2 lo1 lo0) wL0 <|
  rO (oFieldAddr 1 lo0) wL0 <|
  rO (oLoad1 lo0) wL0 <|
  rO (oCopy 1 lo5 lo0) wL0 <|
  rSkip) (rSeq (rO (oMove rd12) wL0 <|
  rO (oNilCheck lo0) wL0 <|
  rO (oFieldAddr 1 lo0) wL0 <|
  rO (oLoad1 lo0) w67 <|
  rO (oLenV rd67) w68 <|
  rO (oMove (rdC (.int 3 (.ofNat 0)))) w69 <|
  rSkip) (rBlock 2 (rLoop (rSeq (rO (oI ibLss rd69 rd68) w70 <|
  rSkip) (rSeq (rCond rd70 rSkip (rExit 2)) (rSeq (rBlock 3 (rSeq (rO (oMove rd69) wL0 <|
  rO (oIndexAddrV 1 rd67 rd69) wL0 <|
  rO (oLoad1 lo0) wL0 <|
  rO (oMove lo2) w13 <|
  rO (oMove lo0) w14 <|
  rSkip) (rO (oMove rd12) wL0 <|
  rO (oNilCheck lo0) wL0 <|
  rO (oFieldAddr 1 lo0) wL0 <|
  rO (oLoad1 lo0) wL0 <|
  rO (oMove rd13) wL0 <|
  rO (oMove rd2) wL0 <|
  rO (oMove rd14) wL0 <|
  rO (oIndexAddrV 1 lo1 lo0) wL0 <|
  rO (oLoad1 lo0) wL0 <|
  rO (oIndexAddrV 1 lo5 lo4) wL0 <|
  rO (oStore1 lo0 lo1) wN <|
  rSkip))) (rO (oI ibAdd rd69 (rdC (.int 3 (.ofNat 1)))) wL0 <|
  rO (oMove lo0) w69 <|
  rSkip)))))))))))))) (rO (oI ibAdd rd20 (rdC (.int 3 (.ofNat 1)))) wL0 <|
  rO (oMove lo0) w20 <|
  rSkip))))))) (rSeq (rO (oLoadN 2 rd9) wL0 <|
  rO (oStoreN 2 rd8 lo0) wN <|
  rSkip) rRet))))
def d265 : DF := .mk [w0, w1, w2, w3] (resN 2 rd8 resNil) c265
def c266 : Run :=
  (rSeq (rO (oBox rd0) w2 <|
  rO (oMove (rdC (.bool false))) w3 <|
  rSkip) (rSeq (rSeq (rO (oFieldAddr 0 rd2) wL0 <|
  rO (oLoad1 lo0) wL0 <|
  rO (oS sbEql lo0 (rdC (.str 0 0))) w7 <|
  rSkip) (rCond rd7 (rSeq (rO (oMove (rdC (.bool true))) w3 <|
  rSkip) rRet) rSkip)) (rSeq (rO (oLoad1 rd1) wL0 <|
  rO (oIndexAddrV 2 lo0 (rdC (.int 3 (.ofNat 0)))) wL0 <|
  rO (oFieldAddr 0 lo0) wL0 <|
  rO (oLoad1 lo0) wL0 <|
  rO (oLoad1 rd1) wL0 <|
  rO (oIndexAddrV 2 lo0 (rdC (.int 3 (.ofNat 0)))) wL0 <|
  rO (oFieldAddr 1 lo0) wL0 <|
  rO (oLoad1 lo0) wL0 <|
  rO (oIndexAddrV 2 lo4 lo0) wL0 <|
  rO (oLoadN 2 lo0) wL0 <|
  rO (oAlloc (mkCells [(.str 0 0), (.oth 1 0 [] [])])) w4 <|
  rO (oStoreN 2 rd4 lo0) wN <|
  rSkip) (rSeq (rO (oFieldAddr 0 rd2) wL0 <|
  rO (oLoad1 lo0) wL0 <|
  rO (oFieldAddr 0 rd4) wL0 <|
  rO (oLoad1 lo0) wL0 <|
  rO (oS sbEql lo2 lo0) wL0 <|
  rO (oMove lo0) wL0 <|
  rG lo0 true wL0 (rO (oFieldAddr 1 rd2) wL0) <|
  rG lo1 true wL0 (rO (oLoad1 lo0) wL0) <|
  rG lo2 true wL0 (rO (oFieldAddr 1 rd4) wL0) <|
  rG lo3 true wL0 (rO (oLoad1 lo0) wL0) <|
  rG lo4 true wL0 (rO (oLenV lo0) wL0) <|
  rG lo5 true wL0 (rO (oI ibEql lo3 lo0) wL0) <|
  rO (oPick lo6 lo0 (rdC (.bool false))) wL0 <|
  rO (oMove lo0) w3 <|
  rSkip) rRet))))
def d266 : DF := .mk [w0, w1] (resT rd3 resNil) c266
def c267 : Run :=
  (rSeq (rO (oBox rd0) w2 <|
  rO (oMove (rdC (.int 3 (.ofNat 0)))) w3 <|
  rSkip) (rSeq (rO (oFieldAddr 0 rd1) wL0 <|
  rO (oLoad1 lo0) wL0 <|
  rO (oMkFn 268 [] [rd2]) wL0 <|
  rCall 169 [lo1, lo0] wL0 <|
  rO (oMove lo0) w3 <|
  rSkip) rRet))
def d267 : DF := .mk [w0, w1] (resT rd3 resNil) c267
def c268 : Run :=
  (rSeq (rO (oBox rd0) w2 <|
  rO (oMove (rdC (.bool false))) w3 <|
  rSkip) (rSeq (rO (oFieldAddr 0 rd2) wL0 <|
  rO (oLoad1 lo0) wL0 <|
  rO (oLoad1 rd1) wL0 <|
  rO (oS sbEql lo1 lo0) wL0 <|
  rO (oMove lo0) w3 <|
  rSkip) rRet))
def d268 : DF := .mk [w0, w1] (resT rd3 resNil) c268
end
end Dv
