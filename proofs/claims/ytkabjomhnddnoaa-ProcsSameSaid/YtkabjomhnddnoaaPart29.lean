/-
  Processes: the document's Same: trees. Processes: two processes of two tables of the document compared: the t
-/
import Derived.Test.YtkabjomhnddnoaaPart23
import Derived.Test.YtkabjomhnddnoaaBase10
import Derived.Test.YtkabjomhnddnoaaPart21
import Derived.Test.YtkabjomhnddnoaaPart25
namespace Go.Am
open Go.Proofs Crc
set_option maxRecDepth 100000
theorem su_b (G:Nat→List AV) (rd:List AV→Bool) (pu:List AV→List AV) (ta sl:List AV) (i:Nat) (Q:Ex→List AV→Hp→Prop) (R:AV→Hp→Prop):vT G Q R (dloop (Df Try.prog [(75,1,27)] [] [(52,sameF (sideQ (rd) (pu)))] [] 0) 400 20 28 (loopN Try.f19 0) 51 [0,1,4,5] [.ptr (.rw 0) (.lit 0),.ptr (.rw 14) (.lit 0),.bool (.lit false),.int .i64 (.ofN (.var 8 i))] (HSd (.var 1 ta) (.var 2 sl)))=(
  (decide ((((i:Nat):Int):Int)≤12)=true→
 decide ((0:Int)≤((i:Nat):Int))=true∧
 decide ((((i:Nat):Int):Int)<13)=true∧
 leB ((i)*6+6) (List.length ta)=true∧
 decide ((0:Int)≤((i:Nat):Int))=true∧
 decide ((((i:Nat):Int):Int)<13)=true∧
 leB ((i)*6+6) (List.length (rowA sl (13)))=true∧
 isI .i64 (subL ta ((i)*6) (6)) (0)=true∧
 isI .i64 (subL (rowA sl (13)) ((i)*6) (6)) (0)=true∧
 isI .i64 (subL ta ((i)*6) (6)) (1)=true∧
 isI .i64 (subL (rowA sl (13)) ((i)*6) (6)) (1)=true∧
 isI .i64 (subL ta ((i)*6) (6)) (2)=true∧
 isI .i64 (subL (rowA sl (13)) ((i)*6) (6)) (2)=true∧
 isI .i64 (subL ta ((i)*6) (6)) (3)=true∧
 isI .i64 (subL (rowA sl (13)) ((i)*6) (6)) (3)=true∧
 isB (subL ta ((i)*6) (6)) (4)=true∧
 isB (subL (rowA sl (13)) ((i)*6) (6)) (4)=true∧
 isI .i64 (subL ta ((i)*6) (6)) (5)=true∧
 isI .i64 (subL (rowA sl (13)) ((i)*6) (6)) (5)=true∧
 (((getI (subL ta ((i)*6) (6)) (0):Int)==getI (subL (rowA sl (13)) ((i)*6) (6)) (0))=true→
 (((getI (subL ta ((i)*6) (6)) (1):Int)==getI (subL (rowA sl (13)) ((i)*6) (6)) (1))=true→
 (((getI (subL ta ((i)*6) (6)) (2):Int)==getI (subL (rowA sl (13)) ((i)*6) (6)) (2))=true→
 (((getI (subL ta ((i)*6) (6)) (3):Int)==getI (subL (rowA sl (13)) ((i)*6) (6)) (3))=true→
 (getB (subL ta ((i)*6) (6)) (4)=true→
 (getB (subL (rowA sl (13)) ((i)*6) (6)) (4)=true→
 (((getI (subL ta ((i)*6) (6)) (5):Int)==getI (subL (rowA sl (13)) ((i)*6) (6)) (5))=true→
 decide ((0:Int)≤((i:Nat):Int))=true∧
 decide ((((i:Nat):Int):Int)<13)=true∧
 (isNilA ta (i+78)=true→
 decide ((0:Int)≤((i:Nat):Int))=true∧
 decide ((((i:Nat):Int):Int)<13)=true∧
 (isNilA (rowA sl (13)) (i+78)=true→
 Q .normal [.ptr (.rw 0) (0),.ptr (.rw 14) (0),.bool (false),.int .i64 (IntKind.wrap .i64 (((i:Nat):Int)+1))] ([some ⟨1,ta⟩]++(rows13 sl++[some ⟨1,(rowA sl (13))⟩,some ⟨1,(rowA sl (14))⟩,some ⟨1,(rowA sl (15))⟩,some ⟨1,(rowA sl (16))⟩,some ⟨1,(rowA sl (17))⟩,some ⟨1,(rowA sl (18))⟩,some ⟨1,(rowA sl (19))⟩,some ⟨1,(rowA sl (20))⟩,some ⟨1,(rowA sl (21))⟩,some ⟨1,(rowA sl (22))⟩,some ⟨1,(rowA sl (23))⟩,some ⟨1,(rowA sl (24))⟩,some ⟨1,(rowA sl (25))⟩,some ⟨1,(rowA sl (26))⟩])))∧
 (isNilA (rowA sl (13)) (i+78)=false→
 isPA 1 27 (rowA sl (13)) (i+78)=true∧
 Nat.beq (foA (rowA sl (13)) (i+78)) (0)=true∧
 leB (fkA 1 (rowA sl (13)) (i+78)+1) (27)=true∧
 rowsA sl (rp 27 sl)=true∧
 leB (fkA 1 (rowA sl (13)) (i+78)+1) (List.length sl)=true∧
 (rd) [.agg (rowA sl (fkA 1 (rowA sl (13)) (i+78)))]=true∧
 Q .ret [.ptr (.rw 0) (0),.ptr (.rw 14) (0),.bool (false),.int .i64 (((i:Nat):Int))] ([some ⟨1,ta⟩]++(rows13 sl++[some ⟨1,(rowA sl (13))⟩,some ⟨1,(rowA sl (14))⟩,some ⟨1,(rowA sl (15))⟩,some ⟨1,(rowA sl (16))⟩,some ⟨1,(rowA sl (17))⟩,some ⟨1,(rowA sl (18))⟩,some ⟨1,(rowA sl (19))⟩,some ⟨1,(rowA sl (20))⟩,some ⟨1,(rowA sl (21))⟩,some ⟨1,(rowA sl (22))⟩,some ⟨1,(rowA sl (23))⟩,some ⟨1,(rowA sl (24))⟩,some ⟨1,(rowA sl (25))⟩,some ⟨1,(rowA sl (26))⟩]))))∧
 (isNilA ta (i+78)=false→
 isPA 1 27 ta (i+78)=true∧
 decide ((0:Int)≤((i:Nat):Int))=true∧
 decide ((((i:Nat):Int):Int)<13)=true∧
 (isNilA (rowA sl (13)) (i+78)=true→
 Nat.beq (foA ta (i+78)) (0)=true∧
 leB (fkA 1 ta (i+78)+1) (27)=true∧
 rowsA sl (rp 27 sl)=true∧
 leB (fkA 1 ta (i+78)+1) (List.length sl)=true∧
 (rd) [.agg (rowA sl (fkA 1 ta (i+78)))]=true∧
 Q .ret [.ptr (.rw 0) (0),.ptr (.rw 14) (0),.bool (false),.int .i64 (((i:Nat):Int))] ([some ⟨1,ta⟩]++(rows13 sl++[some ⟨1,(rowA sl (13))⟩,some ⟨1,(rowA sl (14))⟩,some ⟨1,(rowA sl (15))⟩,some ⟨1,(rowA sl (16))⟩,some ⟨1,(rowA sl (17))⟩,some ⟨1,(rowA sl (18))⟩,some ⟨1,(rowA sl (19))⟩,some ⟨1,(rowA sl (20))⟩,some ⟨1,(rowA sl (21))⟩,some ⟨1,(rowA sl (22))⟩,some ⟨1,(rowA sl (23))⟩,some ⟨1,(rowA sl (24))⟩,some ⟨1,(rowA sl (25))⟩,some ⟨1,(rowA sl (26))⟩])))∧
 (isNilA (rowA sl (13)) (i+78)=false→
 isPA 1 27 (rowA sl (13)) (i+78)=true∧
 Nat.beq (foA ta (i+78)) (0)=true∧
 leB (fkA 1 ta (i+78)+1) (27)=true∧
 rowsA sl (rp 27 sl)=true∧
 leB (fkA 1 ta (i+78)+1) (List.length sl)=true∧
 (rd) [.agg (rowA sl (fkA 1 ta (i+78)))]=true∧
 Nat.beq (foA (rowA sl (13)) (i+78)) (0)=true∧
 leB (fkA 1 (rowA sl (13)) (i+78)+1) (27)=true∧
 rowsA sl (rp 27 sl)=true∧
 leB (fkA 1 (rowA sl (13)) (i+78)+1) (List.length sl)=true∧
 (rd) [.agg (rowA sl (fkA 1 (rowA sl (13)) (i+78)))]=true∧
 (sameU [.agg ((pu) [.agg (rowA sl (fkA 1 ta (i+78)))]),.agg ((pu) [.agg (rowA sl (fkA 1 (rowA sl (13)) (i+78)))])]=true→
 Q .normal [.ptr (.rw 0) (0),.ptr (.rw 14) (0),.bool (false),.int .i64 (IntKind.wrap .i64 (((i:Nat):Int)+1))] ([some ⟨1,ta⟩]++(rows13 sl++[some ⟨1,(rowA sl (13))⟩,some ⟨1,(rowA sl (14))⟩,some ⟨1,(rowA sl (15))⟩,some ⟨1,(rowA sl (16))⟩,some ⟨1,(rowA sl (17))⟩,some ⟨1,(rowA sl (18))⟩,some ⟨1,(rowA sl (19))⟩,some ⟨1,(rowA sl (20))⟩,some ⟨1,(rowA sl (21))⟩,some ⟨1,(rowA sl (22))⟩,some ⟨1,(rowA sl (23))⟩,some ⟨1,(rowA sl (24))⟩,some ⟨1,(rowA sl (25))⟩,some ⟨1,(rowA sl (26))⟩])))∧
 (sameU [.agg ((pu) [.agg (rowA sl (fkA 1 ta (i+78)))]),.agg ((pu) [.agg (rowA sl (fkA 1 (rowA sl (13)) (i+78)))])]=false→
 Q .ret [.ptr (.rw 0) (0),.ptr (.rw 14) (0),.bool (false),.int .i64 (((i:Nat):Int))] ([some ⟨1,ta⟩]++(rows13 sl++[some ⟨1,(rowA sl (13))⟩,some ⟨1,(rowA sl (14))⟩,some ⟨1,(rowA sl (15))⟩,some ⟨1,(rowA sl (16))⟩,some ⟨1,(rowA sl (17))⟩,some ⟨1,(rowA sl (18))⟩,some ⟨1,(rowA sl (19))⟩,some ⟨1,(rowA sl (20))⟩,some ⟨1,(rowA sl (21))⟩,some ⟨1,(rowA sl (22))⟩,some ⟨1,(rowA sl (23))⟩,some ⟨1,(rowA sl (24))⟩,some ⟨1,(rowA sl (25))⟩,some ⟨1,(rowA sl (26))⟩]))))))∧
 (((getI (subL ta ((i)*6) (6)) (5):Int)==getI (subL (rowA sl (13)) ((i)*6) (6)) (5))=false→
 Q .ret [.ptr (.rw 0) (0),.ptr (.rw 14) (0),.bool (false),.int .i64 (((i:Nat):Int))] ([some ⟨1,ta⟩]++(rows13 sl++[some ⟨1,(rowA sl (13))⟩,some ⟨1,(rowA sl (14))⟩,some ⟨1,(rowA sl (15))⟩,some ⟨1,(rowA sl (16))⟩,some ⟨1,(rowA sl (17))⟩,some ⟨1,(rowA sl (18))⟩,some ⟨1,(rowA sl (19))⟩,some ⟨1,(rowA sl (20))⟩,some ⟨1,(rowA sl (21))⟩,some ⟨1,(rowA sl (22))⟩,some ⟨1,(rowA sl (23))⟩,some ⟨1,(rowA sl (24))⟩,some ⟨1,(rowA sl (25))⟩,some ⟨1,(rowA sl (26))⟩]))))∧
 (getB (subL (rowA sl (13)) ((i)*6) (6)) (4)=false→
 Q .ret [.ptr (.rw 0) (0),.ptr (.rw 14) (0),.bool (false),.int .i64 (((i:Nat):Int))] ([some ⟨1,ta⟩]++(rows13 sl++[some ⟨1,(rowA sl (13))⟩,some ⟨1,(rowA sl (14))⟩,some ⟨1,(rowA sl (15))⟩,some ⟨1,(rowA sl (16))⟩,some ⟨1,(rowA sl (17))⟩,some ⟨1,(rowA sl (18))⟩,some ⟨1,(rowA sl (19))⟩,some ⟨1,(rowA sl (20))⟩,some ⟨1,(rowA sl (21))⟩,some ⟨1,(rowA sl (22))⟩,some ⟨1,(rowA sl (23))⟩,some ⟨1,(rowA sl (24))⟩,some ⟨1,(rowA sl (25))⟩,some ⟨1,(rowA sl (26))⟩]))))∧
 (getB (subL ta ((i)*6) (6)) (4)=false→
 (getB (subL (rowA sl (13)) ((i)*6) (6)) (4)=true→
 Q .ret [.ptr (.rw 0) (0),.ptr (.rw 14) (0),.bool (false),.int .i64 (((i:Nat):Int))] ([some ⟨1,ta⟩]++(rows13 sl++[some ⟨1,(rowA sl (13))⟩,some ⟨1,(rowA sl (14))⟩,some ⟨1,(rowA sl (15))⟩,some ⟨1,(rowA sl (16))⟩,some ⟨1,(rowA sl (17))⟩,some ⟨1,(rowA sl (18))⟩,some ⟨1,(rowA sl (19))⟩,some ⟨1,(rowA sl (20))⟩,some ⟨1,(rowA sl (21))⟩,some ⟨1,(rowA sl (22))⟩,some ⟨1,(rowA sl (23))⟩,some ⟨1,(rowA sl (24))⟩,some ⟨1,(rowA sl (25))⟩,some ⟨1,(rowA sl (26))⟩])))∧
 (getB (subL (rowA sl (13)) ((i)*6) (6)) (4)=false→
 (((getI (subL ta ((i)*6) (6)) (5):Int)==getI (subL (rowA sl (13)) ((i)*6) (6)) (5))=true→
 decide ((0:Int)≤((i:Nat):Int))=true∧
 decide ((((i:Nat):Int):Int)<13)=true∧
 (isNilA ta (i+78)=true→
 decide ((0:Int)≤((i:Nat):Int))=true∧
 decide ((((i:Nat):Int):Int)<13)=true∧
 (isNilA (rowA sl (13)) (i+78)=true→
 Q .normal [.ptr (.rw 0) (0),.ptr (.rw 14) (0),.bool (false),.int .i64 (IntKind.wrap .i64 (((i:Nat):Int)+1))] ([some ⟨1,ta⟩]++(rows13 sl++[some ⟨1,(rowA sl (13))⟩,some ⟨1,(rowA sl (14))⟩,some ⟨1,(rowA sl (15))⟩,some ⟨1,(rowA sl (16))⟩,some ⟨1,(rowA sl (17))⟩,some ⟨1,(rowA sl (18))⟩,some ⟨1,(rowA sl (19))⟩,some ⟨1,(rowA sl (20))⟩,some ⟨1,(rowA sl (21))⟩,some ⟨1,(rowA sl (22))⟩,some ⟨1,(rowA sl (23))⟩,some ⟨1,(rowA sl (24))⟩,some ⟨1,(rowA sl (25))⟩,some ⟨1,(rowA sl (26))⟩])))∧
 (isNilA (rowA sl (13)) (i+78)=false→
 isPA 1 27 (rowA sl (13)) (i+78)=true∧
 Nat.beq (foA (rowA sl (13)) (i+78)) (0)=true∧
 leB (fkA 1 (rowA sl (13)) (i+78)+1) (27)=true∧
 rowsA sl (rp 27 sl)=true∧
 leB (fkA 1 (rowA sl (13)) (i+78)+1) (List.length sl)=true∧
 (rd) [.agg (rowA sl (fkA 1 (rowA sl (13)) (i+78)))]=true∧
 Q .ret [.ptr (.rw 0) (0),.ptr (.rw 14) (0),.bool (false),.int .i64 (((i:Nat):Int))] ([some ⟨1,ta⟩]++(rows13 sl++[some ⟨1,(rowA sl (13))⟩,some ⟨1,(rowA sl (14))⟩,some ⟨1,(rowA sl (15))⟩,some ⟨1,(rowA sl (16))⟩,some ⟨1,(rowA sl (17))⟩,some ⟨1,(rowA sl (18))⟩,some ⟨1,(rowA sl (19))⟩,some ⟨1,(rowA sl (20))⟩,some ⟨1,(rowA sl (21))⟩,some ⟨1,(rowA sl (22))⟩,some ⟨1,(rowA sl (23))⟩,some ⟨1,(rowA sl (24))⟩,some ⟨1,(rowA sl (25))⟩,some ⟨1,(rowA sl (26))⟩]))))∧
 (isNilA ta (i+78)=false→
 isPA 1 27 ta (i+78)=true∧
 decide ((0:Int)≤((i:Nat):Int))=true∧
 decide ((((i:Nat):Int):Int)<13)=true∧
 (isNilA (rowA sl (13)) (i+78)=true→
 Nat.beq (foA ta (i+78)) (0)=true∧
 leB (fkA 1 ta (i+78)+1) (27)=true∧
 rowsA sl (rp 27 sl)=true∧
 leB (fkA 1 ta (i+78)+1) (List.length sl)=true∧
 (rd) [.agg (rowA sl (fkA 1 ta (i+78)))]=true∧
 Q .ret [.ptr (.rw 0) (0),.ptr (.rw 14) (0),.bool (false),.int .i64 (((i:Nat):Int))] ([some ⟨1,ta⟩]++(rows13 sl++[some ⟨1,(rowA sl (13))⟩,some ⟨1,(rowA sl (14))⟩,some ⟨1,(rowA sl (15))⟩,some ⟨1,(rowA sl (16))⟩,some ⟨1,(rowA sl (17))⟩,some ⟨1,(rowA sl (18))⟩,some ⟨1,(rowA sl (19))⟩,some ⟨1,(rowA sl (20))⟩,some ⟨1,(rowA sl (21))⟩,some ⟨1,(rowA sl (22))⟩,some ⟨1,(rowA sl (23))⟩,some ⟨1,(rowA sl (24))⟩,some ⟨1,(rowA sl (25))⟩,some ⟨1,(rowA sl (26))⟩])))∧
 (isNilA (rowA sl (13)) (i+78)=false→
 isPA 1 27 (rowA sl (13)) (i+78)=true∧
 Nat.beq (foA ta (i+78)) (0)=true∧
 leB (fkA 1 ta (i+78)+1) (27)=true∧
 rowsA sl (rp 27 sl)=true∧
 leB (fkA 1 ta (i+78)+1) (List.length sl)=true∧
 (rd) [.agg (rowA sl (fkA 1 ta (i+78)))]=true∧
 Nat.beq (foA (rowA sl (13)) (i+78)) (0)=true∧
 leB (fkA 1 (rowA sl (13)) (i+78)+1) (27)=true∧
 rowsA sl (rp 27 sl)=true∧
 leB (fkA 1 (rowA sl (13)) (i+78)+1) (List.length sl)=true∧
 (rd) [.agg (rowA sl (fkA 1 (rowA sl (13)) (i+78)))]=true∧
 (sameU [.agg ((pu) [.agg (rowA sl (fkA 1 ta (i+78)))]),.agg ((pu) [.agg (rowA sl (fkA 1 (rowA sl (13)) (i+78)))])]=true→
 Q .normal [.ptr (.rw 0) (0),.ptr (.rw 14) (0),.bool (false),.int .i64 (IntKind.wrap .i64 (((i:Nat):Int)+1))] ([some ⟨1,ta⟩]++(rows13 sl++[some ⟨1,(rowA sl (13))⟩,some ⟨1,(rowA sl (14))⟩,some ⟨1,(rowA sl (15))⟩,some ⟨1,(rowA sl (16))⟩,some ⟨1,(rowA sl (17))⟩,some ⟨1,(rowA sl (18))⟩,some ⟨1,(rowA sl (19))⟩,some ⟨1,(rowA sl (20))⟩,some ⟨1,(rowA sl (21))⟩,some ⟨1,(rowA sl (22))⟩,some ⟨1,(rowA sl (23))⟩,some ⟨1,(rowA sl (24))⟩,some ⟨1,(rowA sl (25))⟩,some ⟨1,(rowA sl (26))⟩])))∧
 (sameU [.agg ((pu) [.agg (rowA sl (fkA 1 ta (i+78)))]),.agg ((pu) [.agg (rowA sl (fkA 1 (rowA sl (13)) (i+78)))])]=false→
 Q .ret [.ptr (.rw 0) (0),.ptr (.rw 14) (0),.bool (false),.int .i64 (((i:Nat):Int))] ([some ⟨1,ta⟩]++(rows13 sl++[some ⟨1,(rowA sl (13))⟩,some ⟨1,(rowA sl (14))⟩,some ⟨1,(rowA sl (15))⟩,some ⟨1,(rowA sl (16))⟩,some ⟨1,(rowA sl (17))⟩,some ⟨1,(rowA sl (18))⟩,some ⟨1,(rowA sl (19))⟩,some ⟨1,(rowA sl (20))⟩,some ⟨1,(rowA sl (21))⟩,some ⟨1,(rowA sl (22))⟩,some ⟨1,(rowA sl (23))⟩,some ⟨1,(rowA sl (24))⟩,some ⟨1,(rowA sl (25))⟩,some ⟨1,(rowA sl (26))⟩]))))))∧
 (((getI (subL ta ((i)*6) (6)) (5):Int)==getI (subL (rowA sl (13)) ((i)*6) (6)) (5))=false→
 Q .ret [.ptr (.rw 0) (0),.ptr (.rw 14) (0),.bool (false),.int .i64 (((i:Nat):Int))] ([some ⟨1,ta⟩]++(rows13 sl++[some ⟨1,(rowA sl (13))⟩,some ⟨1,(rowA sl (14))⟩,some ⟨1,(rowA sl (15))⟩,some ⟨1,(rowA sl (16))⟩,some ⟨1,(rowA sl (17))⟩,some ⟨1,(rowA sl (18))⟩,some ⟨1,(rowA sl (19))⟩,some ⟨1,(rowA sl (20))⟩,some ⟨1,(rowA sl (21))⟩,some ⟨1,(rowA sl (22))⟩,some ⟨1,(rowA sl (23))⟩,some ⟨1,(rowA sl (24))⟩,some ⟨1,(rowA sl (25))⟩,some ⟨1,(rowA sl (26))⟩]))))))∧
 (((getI (subL ta ((i)*6) (6)) (3):Int)==getI (subL (rowA sl (13)) ((i)*6) (6)) (3))=false→
 Q .ret [.ptr (.rw 0) (0),.ptr (.rw 14) (0),.bool (false),.int .i64 (((i:Nat):Int))] ([some ⟨1,ta⟩]++(rows13 sl++[some ⟨1,(rowA sl (13))⟩,some ⟨1,(rowA sl (14))⟩,some ⟨1,(rowA sl (15))⟩,some ⟨1,(rowA sl (16))⟩,some ⟨1,(rowA sl (17))⟩,some ⟨1,(rowA sl (18))⟩,some ⟨1,(rowA sl (19))⟩,some ⟨1,(rowA sl (20))⟩,some ⟨1,(rowA sl (21))⟩,some ⟨1,(rowA sl (22))⟩,some ⟨1,(rowA sl (23))⟩,some ⟨1,(rowA sl (24))⟩,some ⟨1,(rowA sl (25))⟩,some ⟨1,(rowA sl (26))⟩]))))∧
 (((getI (subL ta ((i)*6) (6)) (2):Int)==getI (subL (rowA sl (13)) ((i)*6) (6)) (2))=false→
 Q .ret [.ptr (.rw 0) (0),.ptr (.rw 14) (0),.bool (false),.int .i64 (((i:Nat):Int))] ([some ⟨1,ta⟩]++(rows13 sl++[some ⟨1,(rowA sl (13))⟩,some ⟨1,(rowA sl (14))⟩,some ⟨1,(rowA sl (15))⟩,some ⟨1,(rowA sl (16))⟩,some ⟨1,(rowA sl (17))⟩,some ⟨1,(rowA sl (18))⟩,some ⟨1,(rowA sl (19))⟩,some ⟨1,(rowA sl (20))⟩,some ⟨1,(rowA sl (21))⟩,some ⟨1,(rowA sl (22))⟩,some ⟨1,(rowA sl (23))⟩,some ⟨1,(rowA sl (24))⟩,some ⟨1,(rowA sl (25))⟩,some ⟨1,(rowA sl (26))⟩]))))∧
 (((getI (subL ta ((i)*6) (6)) (1):Int)==getI (subL (rowA sl (13)) ((i)*6) (6)) (1))=false→
 Q .ret [.ptr (.rw 0) (0),.ptr (.rw 14) (0),.bool (false),.int .i64 (((i:Nat):Int))] ([some ⟨1,ta⟩]++(rows13 sl++[some ⟨1,(rowA sl (13))⟩,some ⟨1,(rowA sl (14))⟩,some ⟨1,(rowA sl (15))⟩,some ⟨1,(rowA sl (16))⟩,some ⟨1,(rowA sl (17))⟩,some ⟨1,(rowA sl (18))⟩,some ⟨1,(rowA sl (19))⟩,some ⟨1,(rowA sl (20))⟩,some ⟨1,(rowA sl (21))⟩,some ⟨1,(rowA sl (22))⟩,some ⟨1,(rowA sl (23))⟩,some ⟨1,(rowA sl (24))⟩,some ⟨1,(rowA sl (25))⟩,some ⟨1,(rowA sl (26))⟩]))))∧
 (((getI (subL ta ((i)*6) (6)) (0):Int)==getI (subL (rowA sl (13)) ((i)*6) (6)) (0))=false→
 Q .ret [.ptr (.rw 0) (0),.ptr (.rw 14) (0),.bool (false),.int .i64 (((i:Nat):Int))] ([some ⟨1,ta⟩]++(rows13 sl++[some ⟨1,(rowA sl (13))⟩,some ⟨1,(rowA sl (14))⟩,some ⟨1,(rowA sl (15))⟩,some ⟨1,(rowA sl (16))⟩,some ⟨1,(rowA sl (17))⟩,some ⟨1,(rowA sl (18))⟩,some ⟨1,(rowA sl (19))⟩,some ⟨1,(rowA sl (20))⟩,some ⟨1,(rowA sl (21))⟩,some ⟨1,(rowA sl (22))⟩,some ⟨1,(rowA sl (23))⟩,some ⟨1,(rowA sl (24))⟩,some ⟨1,(rowA sl (25))⟩,some ⟨1,(rowA sl (26))⟩]))))∧
 (decide ((((i:Nat):Int):Int)≤12)=false→
 Q (.exit 0) [.ptr (.rw 0) (0),.ptr (.rw 14) (0),.bool (false),.int .i64 (((i:Nat):Int))] ([some ⟨1,ta⟩]++(rows13 sl++[some ⟨1,(rowA sl (13))⟩,some ⟨1,(rowA sl (14))⟩,some ⟨1,(rowA sl (15))⟩,some ⟨1,(rowA sl (16))⟩,some ⟨1,(rowA sl (17))⟩,some ⟨1,(rowA sl (18))⟩,some ⟨1,(rowA sl (19))⟩,some ⟨1,(rowA sl (20))⟩,some ⟨1,(rowA sl (21))⟩,some ⟨1,(rowA sl (22))⟩,some ⟨1,(rowA sl (23))⟩,some ⟨1,(rowA sl (24))⟩,some ⟨1,(rowA sl (25))⟩,some ⟨1,(rowA sl (26))⟩])))):=by kernel_rfl
theorem su_c (G:Nat→List AV) (rl:List AV→Bool) (ta sl:List AV) (fb:Bool) (Q:Ex→List AV→Hp→Prop) (R:AV→Hp→Prop):vT G Q R (dcall (Dc Try.prog [] [] [DLat 2378 (rl) 0 51 [0,1,4,5] (.tst (.var 9 fb) (.one (.exit 0) [.undef,.undef,.undef,.undef] (HSd (.var 1 ta) (.var 2 sl))) (.one .ret [.undef,.undef,.bool (.lit false),.undef] (HSd (.var 1 ta) (.var 2 sl))))] 28) 300 20 Try.f19 [.ptr (.rw 0) (.lit 0),.ptr (.rw 14) (.lit 0)] (HSd (.var 1 ta) (.var 2 sl)) 28)=(
  (rl) [.agg ([.ptr (.rw 0) (0),.ptr (.rw 14) (0),.bool (false),.int .i64 (1)]:List AV),.agg ((tp3 [.tup [.int .i64 (1),.agg ta]] sl [.tup [.int .i64 (1),.agg (rowA sl (13))],.tup [.int .i64 (1),.agg (rowA sl (14))],.tup [.int .i64 (1),.agg (rowA sl (15))],.tup [.int .i64 (1),.agg (rowA sl (16))],.tup [.int .i64 (1),.agg (rowA sl (17))],.tup [.int .i64 (1),.agg (rowA sl (18))],.tup [.int .i64 (1),.agg (rowA sl (19))],.tup [.int .i64 (1),.agg (rowA sl (20))],.tup [.int .i64 (1),.agg (rowA sl (21))],.tup [.int .i64 (1),.agg (rowA sl (22))],.tup [.int .i64 (1),.agg (rowA sl (23))],.tup [.int .i64 (1),.agg (rowA sl (24))],.tup [.int .i64 (1),.agg (rowA sl (25))],.tup [.int .i64 (1),.agg (rowA sl (26))]]):List AV)]=true∧
 (fb=true→
 R (.bool (true)) ([some ⟨1,ta⟩]++(rows13 sl++[some ⟨1,(rowA sl (13))⟩,some ⟨1,(rowA sl (14))⟩,some ⟨1,(rowA sl (15))⟩,some ⟨1,(rowA sl (16))⟩,some ⟨1,(rowA sl (17))⟩,some ⟨1,(rowA sl (18))⟩,some ⟨1,(rowA sl (19))⟩,some ⟨1,(rowA sl (20))⟩,some ⟨1,(rowA sl (21))⟩,some ⟨1,(rowA sl (22))⟩,some ⟨1,(rowA sl (23))⟩,some ⟨1,(rowA sl (24))⟩,some ⟨1,(rowA sl (25))⟩,some ⟨1,(rowA sl (26))⟩])))∧
 (fb=false→
 R (.bool (false)) ([some ⟨1,ta⟩]++(rows13 sl++[some ⟨1,(rowA sl (13))⟩,some ⟨1,(rowA sl (14))⟩,some ⟨1,(rowA sl (15))⟩,some ⟨1,(rowA sl (16))⟩,some ⟨1,(rowA sl (17))⟩,some ⟨1,(rowA sl (18))⟩,some ⟨1,(rowA sl (19))⟩,some ⟨1,(rowA sl (20))⟩,some ⟨1,(rowA sl (21))⟩,some ⟨1,(rowA sl (22))⟩,some ⟨1,(rowA sl (23))⟩,some ⟨1,(rowA sl (24))⟩,some ⟨1,(rowA sl (25))⟩,some ⟨1,(rowA sl (26))⟩])))):=by kernel_rfl
end Go.Am
namespace Go.Am
open Crc
set_option maxRecDepth 100000
structure SuF (K i:Nat) (ta tbb sl Ls:List AV) (x y:Pc) (u v:Option Sg):Prop where
 lta:i*6+6≤ta.length
 ltb:i*6+6≤tbb.length
 X:subL ta (i*6) 6=rowU x
 Y:subL tbb (i*6) 6=rowU y
 U:(u=none∧isNilA ta (i+78)=true)∨∃ p j,u=some p∧isNilA ta (i+78)=false∧isPA 1 K ta (i+78)=true∧fkA 1 ta (i+78)=j∧foA ta (i+78)=0∧j<K∧j<sl.length∧rowA sl j=encR p
 V:(v=none∧isNilA tbb (i+78)=true)∨∃ q j,v=some q∧isNilA tbb (i+78)=false∧isPA 1 K tbb (i+78)=true∧fkA 1 tbb (i+78)=j∧foA tbb (i+78)=0∧j<K∧j<sl.length∧rowA sl j=encR q
 Ls:rowsA sl Ls=true
theorem su_tail {K i:Nat} {ta tbb sl Ls:List AV} {x y:Pc} {u v:Option Sg} {A B:Prop} (F:SuF K i ta tbb sl Ls x y u v) (hi:i<13) (hA:sgoB u v=true→A) (hB:sgoB u v=false→B) :
          (isNilA ta (i+78)=true→
           decide ((0:Int)≤((i:Nat):Int))=true∧
           decide ((((i:Nat):Int):Int)<13)=true∧
           (isNilA (tbb) (i+78)=true→
            A)∧
           (isNilA (tbb) (i+78)=false→
            isPA 1 K (tbb) (i+78)=true∧
            Nat.beq (foA (tbb) (i+78)) (0)=true∧
            leB (fkA 1 (tbb) (i+78)+1) (K)=true∧
            rowsA sl Ls=true∧
            leB (fkA 1 (tbb) (i+78)+1) (List.length sl)=true∧
            okRd [.agg (rowA sl (fkA 1 (tbb) (i+78)))]=true∧
            B))∧
          (isNilA ta (i+78)=false→
           isPA 1 K ta (i+78)=true∧
           decide ((0:Int)≤((i:Nat):Int))=true∧
           decide ((((i:Nat):Int):Int)<13)=true∧
           (isNilA (tbb) (i+78)=true→
            Nat.beq (foA ta (i+78)) (0)=true∧
            leB (fkA 1 ta (i+78)+1) (K)=true∧
            rowsA sl Ls=true∧
            leB (fkA 1 ta (i+78)+1) (List.length sl)=true∧
            okRd [.agg (rowA sl (fkA 1 ta (i+78)))]=true∧
            B)∧
           (isNilA (tbb) (i+78)=false→
            isPA 1 K (tbb) (i+78)=true∧
            Nat.beq (foA ta (i+78)) (0)=true∧
            leB (fkA 1 ta (i+78)+1) (K)=true∧
            rowsA sl Ls=true∧
            leB (fkA 1 ta (i+78)+1) (List.length sl)=true∧
            okRd [.agg (rowA sl (fkA 1 ta (i+78)))]=true∧
            Nat.beq (foA (tbb) (i+78)) (0)=true∧
            leB (fkA 1 (tbb) (i+78)+1) (K)=true∧
            rowsA sl Ls=true∧
            leB (fkA 1 (tbb) (i+78)+1) (List.length sl)=true∧
            okRd [.agg (rowA sl (fkA 1 (tbb) (i+78)))]=true∧
            (sameU [.agg (toPU [.agg (rowA sl (fkA 1 ta (i+78)))]),.agg (toPU [.agg (rowA sl (fkA 1 (tbb) (i+78)))])]=true→
             A)∧
            (sameU [.agg (toPU [.agg (rowA sl (fkA 1 ta (i+78)))]),.agg (toPU [.agg (rowA sl (fkA 1 (tbb) (i+78)))])]=false→
             B))):=by
 have d1:decide ((0:Int)≤((i:Nat):Int))=true:=decide_eq_true (by omega)
 have d2:decide ((((i:Nat):Int):Int)<13)=true:=decide_eq_true (by omega)
 refine ⟨fun h1=>⟨d1,d2,fun h2=>?_,fun h2=>?_⟩,fun h1=>?_⟩
 ·rcases F.U with ⟨rfl,_⟩ | ⟨p,j,rfl,m1,_⟩
  ·rcases F.V with ⟨rfl,_⟩ | ⟨q,j,rfl,n1,_⟩
   ·exact hA rfl
   ·rw [n1] at h2;cases h2
  ·rw [m1] at h1;cases h1
 ·rcases F.U with ⟨rfl,_⟩ | ⟨p,j,rfl,m1,_⟩
  ·rcases F.V with ⟨rfl,n1⟩ | ⟨q,j,rfl,n1,n2,n3,n4,n5,n6,n7⟩
   ·rw [n1] at h2;cases h2
   ·rw [n3,n4,n7]
    exact ⟨n2,rfl,leB_iff.2 (by omega),F.Ls,leB_iff.2 (by omega),okRd_enc q,hB rfl⟩
  ·rw [m1] at h1;cases h1
 ·rcases F.U with ⟨rfl,m1⟩ | ⟨p,j,rfl,m1,m2,m3,m4,m5,m6,m7⟩
  ·rw [m1] at h1;cases h1
  ·rw [m3,m4,m7,toPU_enc]
   refine ⟨m2,d1,d2,fun h2=>?_,fun h2=>?_⟩
   ·rcases F.V with ⟨rfl,n1⟩ | ⟨q,j',rfl,n1,n2,n3,n4,n5,n6,n7⟩
    ·exact ⟨rfl,leB_iff.2 (by omega),F.Ls,leB_iff.2 (by omega),okRd_enc p,hB rfl⟩
    ·rw [n1] at h2;cases h2
   ·rcases F.V with ⟨rfl,n1⟩ | ⟨q,j',rfl,n1,n2,n3,n4,n5,n6,n7⟩
    ·rw [n1] at h2;cases h2
    ·rw [n3,n4,n7,toPU_enc,sameU_enc]
     exact ⟨n2,rfl,leB_iff.2 (by omega),F.Ls,leB_iff.2 (by omega),okRd_enc p,rfl,leB_iff.2 (by omega),F.Ls,leB_iff.2 (by omega),okRd_enc q,hA,hB⟩
theorem su_tree {K i:Nat} {ta tbb sl Ls:List AV} {x y:Pc} {u v:Option Sg} {A B E:Prop} (F:i<13→SuF K i ta tbb sl Ls x y u v) (hA:i<13→(pcB x y&&sgoB u v)=true→A) (hB:i<13→(pcB x y&&sgoB u v)=false→B) (hE:¬i<13→E) :
  (decide ((((i:Nat):Int):Int)≤12)=true→
   decide ((0:Int)≤((i:Nat):Int))=true∧
   decide ((((i:Nat):Int):Int)<13)=true∧
   leB ((i)*6+6) (List.length ta)=true∧
   decide ((0:Int)≤((i:Nat):Int))=true∧
   decide ((((i:Nat):Int):Int)<13)=true∧
   leB ((i)*6+6) (List.length (tbb))=true∧
   isI .i64 (subL ta ((i)*6) (6)) (0)=true∧
   isI .i64 (subL (tbb) ((i)*6) (6)) (0)=true∧
   isI .i64 (subL ta ((i)*6) (6)) (1)=true∧
   isI .i64 (subL (tbb) ((i)*6) (6)) (1)=true∧
   isI .i64 (subL ta ((i)*6) (6)) (2)=true∧
   isI .i64 (subL (tbb) ((i)*6) (6)) (2)=true∧
   isI .i64 (subL ta ((i)*6) (6)) (3)=true∧
   isI .i64 (subL (tbb) ((i)*6) (6)) (3)=true∧
   isB (subL ta ((i)*6) (6)) (4)=true∧
   isB (subL (tbb) ((i)*6) (6)) (4)=true∧
   isI .i64 (subL ta ((i)*6) (6)) (5)=true∧
   isI .i64 (subL (tbb) ((i)*6) (6)) (5)=true∧
   (((getI (subL ta ((i)*6) (6)) (0):Int)==getI (subL (tbb) ((i)*6) (6)) (0))=true→
    (((getI (subL ta ((i)*6) (6)) (1):Int)==getI (subL (tbb) ((i)*6) (6)) (1))=true→
     (((getI (subL ta ((i)*6) (6)) (2):Int)==getI (subL (tbb) ((i)*6) (6)) (2))=true→
      (((getI (subL ta ((i)*6) (6)) (3):Int)==getI (subL (tbb) ((i)*6) (6)) (3))=true→
       (getB (subL ta ((i)*6) (6)) (4)=true→
        (getB (subL (tbb) ((i)*6) (6)) (4)=true→
         (((getI (subL ta ((i)*6) (6)) (5):Int)==getI (subL (tbb) ((i)*6) (6)) (5))=true→
          decide ((0:Int)≤((i:Nat):Int))=true∧
          decide ((((i:Nat):Int):Int)<13)=true∧
          (isNilA ta (i+78)=true→
           decide ((0:Int)≤((i:Nat):Int))=true∧
           decide ((((i:Nat):Int):Int)<13)=true∧
           (isNilA (tbb) (i+78)=true→
            A)∧
           (isNilA (tbb) (i+78)=false→
            isPA 1 K (tbb) (i+78)=true∧
            Nat.beq (foA (tbb) (i+78)) (0)=true∧
            leB (fkA 1 (tbb) (i+78)+1) (K)=true∧
            rowsA sl Ls=true∧
            leB (fkA 1 (tbb) (i+78)+1) (List.length sl)=true∧
            okRd [.agg (rowA sl (fkA 1 (tbb) (i+78)))]=true∧
            B))∧
          (isNilA ta (i+78)=false→
           isPA 1 K ta (i+78)=true∧
           decide ((0:Int)≤((i:Nat):Int))=true∧
           decide ((((i:Nat):Int):Int)<13)=true∧
           (isNilA (tbb) (i+78)=true→
            Nat.beq (foA ta (i+78)) (0)=true∧
            leB (fkA 1 ta (i+78)+1) (K)=true∧
            rowsA sl Ls=true∧
            leB (fkA 1 ta (i+78)+1) (List.length sl)=true∧
            okRd [.agg (rowA sl (fkA 1 ta (i+78)))]=true∧
            B)∧
           (isNilA (tbb) (i+78)=false→
            isPA 1 K (tbb) (i+78)=true∧
            Nat.beq (foA ta (i+78)) (0)=true∧
            leB (fkA 1 ta (i+78)+1) (K)=true∧
            rowsA sl Ls=true∧
            leB (fkA 1 ta (i+78)+1) (List.length sl)=true∧
            okRd [.agg (rowA sl (fkA 1 ta (i+78)))]=true∧
            Nat.beq (foA (tbb) (i+78)) (0)=true∧
            leB (fkA 1 (tbb) (i+78)+1) (K)=true∧
            rowsA sl Ls=true∧
            leB (fkA 1 (tbb) (i+78)+1) (List.length sl)=true∧
            okRd [.agg (rowA sl (fkA 1 (tbb) (i+78)))]=true∧
            (sameU [.agg (toPU [.agg (rowA sl (fkA 1 ta (i+78)))]),.agg (toPU [.agg (rowA sl (fkA 1 (tbb) (i+78)))])]=true→
             A)∧
            (sameU [.agg (toPU [.agg (rowA sl (fkA 1 ta (i+78)))]),.agg (toPU [.agg (rowA sl (fkA 1 (tbb) (i+78)))])]=false→
             B))))∧
         (((getI (subL ta ((i)*6) (6)) (5):Int)==getI (subL (tbb) ((i)*6) (6)) (5))=false→
          B))∧
        (getB (subL (tbb) ((i)*6) (6)) (4)=false→
         B))∧
       (getB (subL ta ((i)*6) (6)) (4)=false→
        (getB (subL (tbb) ((i)*6) (6)) (4)=true→
         B)∧
        (getB (subL (tbb) ((i)*6) (6)) (4)=false→
         (((getI (subL ta ((i)*6) (6)) (5):Int)==getI (subL (tbb) ((i)*6) (6)) (5))=true→
          decide ((0:Int)≤((i:Nat):Int))=true∧
          decide ((((i:Nat):Int):Int)<13)=true∧
          (isNilA ta (i+78)=true→
           decide ((0:Int)≤((i:Nat):Int))=true∧
           decide ((((i:Nat):Int):Int)<13)=true∧
           (isNilA (tbb) (i+78)=true→
            A)∧
           (isNilA (tbb) (i+78)=false→
            isPA 1 K (tbb) (i+78)=true∧
            Nat.beq (foA (tbb) (i+78)) (0)=true∧
            leB (fkA 1 (tbb) (i+78)+1) (K)=true∧
            rowsA sl Ls=true∧
            leB (fkA 1 (tbb) (i+78)+1) (List.length sl)=true∧
            okRd [.agg (rowA sl (fkA 1 (tbb) (i+78)))]=true∧
            B))∧
          (isNilA ta (i+78)=false→
           isPA 1 K ta (i+78)=true∧
           decide ((0:Int)≤((i:Nat):Int))=true∧
           decide ((((i:Nat):Int):Int)<13)=true∧
           (isNilA (tbb) (i+78)=true→
            Nat.beq (foA ta (i+78)) (0)=true∧
            leB (fkA 1 ta (i+78)+1) (K)=true∧
            rowsA sl Ls=true∧
            leB (fkA 1 ta (i+78)+1) (List.length sl)=true∧
            okRd [.agg (rowA sl (fkA 1 ta (i+78)))]=true∧
            B)∧
           (isNilA (tbb) (i+78)=false→
            isPA 1 K (tbb) (i+78)=true∧
            Nat.beq (foA ta (i+78)) (0)=true∧
            leB (fkA 1 ta (i+78)+1) (K)=true∧
            rowsA sl Ls=true∧
            leB (fkA 1 ta (i+78)+1) (List.length sl)=true∧
            okRd [.agg (rowA sl (fkA 1 ta (i+78)))]=true∧
            Nat.beq (foA (tbb) (i+78)) (0)=true∧
            leB (fkA 1 (tbb) (i+78)+1) (K)=true∧
            rowsA sl Ls=true∧
            leB (fkA 1 (tbb) (i+78)+1) (List.length sl)=true∧
            okRd [.agg (rowA sl (fkA 1 (tbb) (i+78)))]=true∧
            (sameU [.agg (toPU [.agg (rowA sl (fkA 1 ta (i+78)))]),.agg (toPU [.agg (rowA sl (fkA 1 (tbb) (i+78)))])]=true→
             A)∧
            (sameU [.agg (toPU [.agg (rowA sl (fkA 1 ta (i+78)))]),.agg (toPU [.agg (rowA sl (fkA 1 (tbb) (i+78)))])]=false→
             B))))∧
         (((getI (subL ta ((i)*6) (6)) (5):Int)==getI (subL (tbb) ((i)*6) (6)) (5))=false→
          B))))∧
      (((getI (subL ta ((i)*6) (6)) (3):Int)==getI (subL (tbb) ((i)*6) (6)) (3))=false→
       B))∧
     (((getI (subL ta ((i)*6) (6)) (2):Int)==getI (subL (tbb) ((i)*6) (6)) (2))=false→
      B))∧
    (((getI (subL ta ((i)*6) (6)) (1):Int)==getI (subL (tbb) ((i)*6) (6)) (1))=false→
     B))∧
   (((getI (subL ta ((i)*6) (6)) (0):Int)==getI (subL (tbb) ((i)*6) (6)) (0))=false→
    B))∧
  (decide ((((i:Nat):Int):Int)≤12)=false→
   E):=by
 refine ⟨fun h=>?_,fun h=>hE (by have:=of_decide_eq_false h;omega)⟩
 have hi:i<13:=by have:=of_decide_eq_true h;omega
 have F:=F hi
 have hA:=hA hi
 have hB:=hB hi
 have tl:=fun (h:(pcB x y)=true)=>su_tail (A:=A) (B:=B) F hi (fun e=>hA (by rw [h,e];rfl)) (fun e=>hB (by rw [h,e];rfl))
 have no:=fun (h:(pcB x y)=false)=>hB (by rw [h];rfl)
 have d1:decide ((0:Int)≤((i:Nat):Int))=true:=decide_eq_true (by omega)
 have d2:decide ((((i:Nat):Int):Int)<13)=true:=decide_eq_true (by omega)
 rw [F.X,F.Y]
 refine ⟨d1,d2,leB_iff.2 F.lta,d1,d2,leB_iff.2 F.ltb,rfl,rfl,rfl,rfl,rfl,rfl,rfl,rfl,rfl,rfl,rfl,rfl,fun c0=>⟨fun c1=>⟨fun c2=>⟨fun c3=>⟨fun c4=>⟨fun c5=>⟨fun c6=>⟨d1,d2,?_⟩,fun c6=>?_⟩,fun c5=>?_⟩,fun c4=>⟨fun c5=>?_,fun c5=>⟨fun c6=>⟨d1,d2,?_⟩,fun c6=>?_⟩⟩⟩,fun c3=>?_⟩,fun c2=>?_⟩,fun c1=>?_⟩,fun c0=>?_⟩
 ·exact tl (by
   have c0:(x.num==y.num)=true:=c0
   have c1:(x.par==y.par)=true:=c1
   have c2:(x.grp==y.grp)=true:=c2
   have c3:(x.usr==y.usr)=true:=c3
   have c4:x.en=true:=c4
   have c5:y.en=true:=c5
   have c6:(x.st==y.st)=true:=c6
   unfold pcB;rw [c0,c1,c2,c3,c4,c5,c6];rfl)
 ·exact no (by
   have c6:(x.st==y.st)=false:=c6
   unfold pcB;rw [c6];simp)
 ·exact no (by
   have c4:x.en=true:=c4
   have c5:y.en=false:=c5
   unfold pcB;rw [c4,c5];simp)
 ·exact no (by
   have c4:x.en=false:=c4
   have c5:y.en=true:=c5
   unfold pcB;rw [c4,c5];simp)
 ·exact tl (by
   have c0:(x.num==y.num)=true:=c0
   have c1:(x.par==y.par)=true:=c1
   have c2:(x.grp==y.grp)=true:=c2
   have c3:(x.usr==y.usr)=true:=c3
   have c4:x.en=false:=c4
   have c5:y.en=false:=c5
   have c6:(x.st==y.st)=true:=c6
   unfold pcB;rw [c0,c1,c2,c3,c4,c5,c6];rfl)
 ·exact no (by
   have c6:(x.st==y.st)=false:=c6
   unfold pcB;rw [c6];simp)
 ·exact no (by
   have c3:(x.usr==y.usr)=false:=c3
   unfold pcB;rw [c3];simp)
 ·exact no (by
   have c2:(x.grp==y.grp)=false:=c2
   unfold pcB;rw [c2];simp)
 ·exact no (by
   have c1:(x.par==y.par)=false:=c1
   unfold pcB;rw [c1];simp)
 ·exact no (by
   have c0:(x.num==y.num)=false:=c0
   unfold pcB;rw [c0];simp)
end Go.Am
namespace Go.Am
open Go.Proofs Crc
set_option maxRecDepth 100000
theorem s52a (G:Nat→List AV) (tb:List AV) (Q:Ex→List AV→Hp→Prop) (R:AV→Hp→Prop):vT G Q R (dcall (Dc Try.prog [] [] [] 0) 100 10 Try.f52 [.nilp,.nilp] [] 0)=(
  R (.bool (true)) []):=by kernel_rfl
theorem s52b (G:Nat→List AV) (tb:List AV) (Q:Ex→List AV→Hp→Prop) (R:AV→Hp→Prop):vT G Q R (dcall (Dc Try.prog [] [] [] 0) 100 10 Try.f52 [.nilp,.ptr (.rw 0) (.lit 0)] [some ⟨1,.var 1 tb⟩] 1)=(
  R (.bool (false)) [some ⟨1,tb⟩]):=by kernel_rfl
theorem s52c (G:Nat→List AV) (tb:List AV) (Q:Ex→List AV→Hp→Prop) (R:AV→Hp→Prop):vT G Q R (dcall (Dc Try.prog [] [] [] 0) 100 10 Try.f52 [.ptr (.rw 0) (.lit 0),.nilp] [some ⟨1,.var 1 tb⟩] 1)=(
  R (.bool (false)) [some ⟨1,tb⟩]):=by kernel_rfl
theorem t23s (G:Nat→List AV) (cs:List AV) (Q:Ex→List AV→Hp→Prop) (R:AV→Hp→Prop):vT G Q R (dcall (Dc Try.prog [] [] [] 0) 200 10 Try.f52 [.ptr (.rw 0) (.lit 0),.ptr (.rw 0) (.lit 0)] [some ⟨1,wC lsR (.var 1 cs)⟩] 1)=(
  R (.bool (((((getB cs (0):Bool)==getB cs (0))&&(((getB cs (1):Bool)==getB cs (1))&&(((getB cs (2):Bool)==getB cs (2))&&(((getB cs (3):Bool)==getB cs (3))&&(((getB cs (4):Bool)==getB cs (4))&&(((getB cs (5):Bool)==getB cs (5))&&(((getB cs (6):Bool)==getB cs (6))&&(((getB cs (7):Bool)==getB cs (7))&&(((getB cs (8):Bool)==getB cs (8))&&(((getB cs (9):Bool)==getB cs (9))&&(((getB cs (10):Bool)==getB cs (10))&&(((getB cs (11):Bool)==getB cs (11))&&(((getB cs (12):Bool)==getB cs (12))&&(((getB cs (13):Bool)==getB cs (13))&&(((getB cs (14):Bool)==getB cs (14))&&((getB cs (15):Bool)==getB cs (15)))))))))))))))))&&((((getB cs (16):Bool)==getB cs (16))&&(((getB cs (17):Bool)==getB cs (17))&&(((getB cs (18):Bool)==getB cs (18))&&(((getB cs (19):Bool)==getB cs (19))&&(((getB cs (20):Bool)==getB cs (20))&&(((getB cs (21):Bool)==getB cs (21))&&(((getB cs (22):Bool)==getB cs (22))&&(((getB cs (23):Bool)==getB cs (23))&&(((getB cs (24):Bool)==getB cs (24))&&(((getB cs (25):Bool)==getB cs (25))&&(((getB cs (26):Bool)==getB cs (26))&&(((getB cs (27):Bool)==getB cs (27))&&(((getB cs (28):Bool)==getB cs (28))&&(((getB cs (29):Bool)==getB cs (29))&&(((getB cs (30):Bool)==getB cs (30))&&((getB cs (31):Bool)==getB cs (31)))))))))))))))))&&(((getI cs (32):Int)==getI cs (32))&&(((getI cs (33):Int)==getI cs (33))&&(((getI cs (34):Int)==getI cs (34))&&(((getI cs (35):Int)==getI cs (35))&&(((getI cs (36):Int)==getI cs (36))&&(((getI cs (37):Int)==getI cs (37))&&(((getI cs (38):Int)==getI cs (38))&&(((getI cs (39):Int)==getI cs (39))&&(((getI cs (40):Int)==getI cs (40))&&(((getI cs (41):Int)==getI cs (41))&&(((getI cs (42):Int)==getI cs (42))&&(((getI cs (43):Int)==getI cs (43))&&(((getI cs (44):Int)==getI cs (44))&&(((getI cs (45):Int)==getI cs (45))&&(((getI cs (46):Int)==getI cs (46))&&((getI cs (47):Int)==getI cs (47))))))))))))))))))))) [some ⟨1,([.bool (getB cs (0)),.bool (getB cs (1)),.bool (getB cs (2)),.bool (getB cs (3)),.bool (getB cs (4)),.bool (getB cs (5)),.bool (getB cs (6)),.bool (getB cs (7)),.bool (getB cs (8)),.bool (getB cs (9)),.bool (getB cs (10)),.bool (getB cs (11)),.bool (getB cs (12)),.bool (getB cs (13)),.bool (getB cs (14)),.bool (getB cs (15)),.bool (getB cs (16)),.bool (getB cs (17)),.bool (getB cs (18)),.bool (getB cs (19)),.bool (getB cs (20)),.bool (getB cs (21)),.bool (getB cs (22)),.bool (getB cs (23)),.bool (getB cs (24)),.bool (getB cs (25)),.bool (getB cs (26)),.bool (getB cs (27)),.bool (getB cs (28)),.bool (getB cs (29)),.bool (getB cs (30)),.bool (getB cs (31)),.int .u32 (getI cs (32)),.int .u32 (getI cs (33)),.int .u32 (getI cs (34)),.int .u32 (getI cs (35)),.int .u32 (getI cs (36)),.int .u32 (getI cs (37)),.int .u32 (getI cs (38)),.int .u32 (getI cs (39)),.int .u32 (getI cs (40)),.int .u32 (getI cs (41)),.int .u32 (getI cs (42)),.int .u32 (getI cs (43)),.int .u32 (getI cs (44)),.int .u32 (getI cs (45)),.int .u32 (getI cs (46)),.int .u32 (getI cs (47))]:List AV)⟩]):=by kernel_rfl
theorem r_same0 (G:Nat→List AV) (B:Nat):ACalls (⟨Try.prog,G,B⟩:Ctx) 52 [.nilp,.nilp] [] fun v H'=>v=.bool true∧H'.take 0=[]:=by
 have:=dcall_ok (C:=(⟨Try.prog,G,B⟩:Ctx)) (f:=52) (args:=[.nilp,.nilp]) (H:=[]) (keep:=0) (R:=fun v H'=>v=.bool true∧H'=[]) (dgood (inl:=[]) (sums:=[]) (ls:=[]) (M:=0) (cs:=[]) (mix G B) (by kernel_rfl) .nil .nil) (by kernel_rfl) (by kernel_rfl) (by kernel_rfl) (fuel:=100) (n0:=10) (by rw [s52a G []];exact ⟨rfl,rfl⟩)
 exact this
theorem r_sameL (G:Nat→List AV) (B:Nat) (p:Sg):ACalls (⟨Try.prog,G,B⟩:Ctx) 52 [.nilp,.ptr (.rw 0) 0] [some ⟨1,encR p⟩] fun v H'=>v=.bool false∧H'.take 1=[some ⟨1,encR p⟩]:=by
 have:=dcall_ok (C:=(⟨Try.prog,G,B⟩:Ctx)) (f:=52) (args:=[.nilp,.ptr (.rw 0) (.lit 0)]) (H:=[some ⟨1,.var 1 (encR p)⟩]) (keep:=1) (R:=fun v H'=>v=.bool false∧H'=[some ⟨1,encR p⟩]) (dgood (inl:=[]) (sums:=[]) (ls:=[]) (M:=0) (cs:=[]) (mix G B) (by kernel_rfl) .nil .nil) (by kernel_rfl) (by kernel_rfl) (by kernel_rfl) (fuel:=100) (n0:=10) (by rw [s52b];exact ⟨rfl,rfl⟩)
 exact this
theorem r_sameN (G:Nat→List AV) (B:Nat) (p:Sg):ACalls (⟨Try.prog,G,B⟩:Ctx) 52 [.ptr (.rw 0) 0,.nilp] [some ⟨1,encR p⟩] fun v H'=>v=.bool false∧H'.take 1=[some ⟨1,encR p⟩]:=by
 have:=dcall_ok (C:=(⟨Try.prog,G,B⟩:Ctx)) (f:=52) (args:=[.ptr (.rw 0) (.lit 0),.nilp]) (H:=[some ⟨1,.var 1 (encR p)⟩]) (keep:=1) (R:=fun v H'=>v=.bool false∧H'=[some ⟨1,encR p⟩]) (dgood (inl:=[]) (sums:=[]) (ls:=[]) (M:=0) (cs:=[]) (mix G B) (by kernel_rfl) .nil .nil) (by kernel_rfl) (by kernel_rfl) (by kernel_rfl) (fuel:=100) (n0:=10) (by rw [s52c];exact ⟨rfl,rfl⟩)
 exact this
theorem r_same1 (G:Nat→List AV) (B:Nat) (p:Sg):ACalls (⟨Try.prog,G,B⟩:Ctx) 52 [.ptr (.rw 0) 0,.ptr (.rw 0) 0] [some ⟨1,encR p⟩] fun v H'=>v=.bool true∧H'.take 1=[some ⟨1,encR p⟩]:=by
 have key:=dcall_ok (C:=(⟨Try.prog,G,B⟩:Ctx)) (f:=52) (R:=fun v' H'=>v'=.bool true∧H'=[some ⟨1,encR p⟩]) (dgood (inl:=[]) (sums:=[]) (ls:=[]) (M:=0) (cs:=[]) (mix G B) (by kernel_rfl) .nil .nil) (by kernel_rfl) (by kernel_rfl) (by kernel_rfl) (fuel:=200) (n0:=10) (keep:=1) (args:=[.ptr (.rw 0) (.lit 0),.ptr (.rw 0) (.lit 0)]) (H:=[some ⟨1,wC lsR (.var 1 (encR p))⟩]) (by
  rw [t23s]
  refine ⟨?_,rfl⟩
  simp only [beq_self_eq_true,Bool.and_self])
 simp only [vVs,vV,vR,vN,vHp,List.map_cons,List.map_nil,Option.map_some,vBlk,wC_R] at key
 exact key
theorem sameFR_ok (G:Nat→List AV) (B:Nat):DSumOk (⟨Try.prog,G,B⟩:Ctx) 52 (sameF sideD):=sameF_ok (sideD_ok G) (fun p q h=>encR_inj h) (r_same G B) (r_same1 G B) (r_same0 G B) (r_sameL G B) (r_sameN G B)
end Go.Am
namespace Go.Am
open Go.Proofs Crc
set_option maxRecDepth 100000
def SR2 (s s':Ptb):List AV:=setsL encR s++(.agg (encU 15 s')::setsL encR s')
theorem hSR2 (G:Nat→List AV) (s s':Ptb):vHp G (HSd (.var 1 (encU 1 s)) (.var 2 (SR2 s s')))=two tsR s s':=rfl
theorem sr2_lo {s s':Ptb} {n:Nat} (h:n<13):rowA (SR2 s s') n=blkO encR (s.sg n):=by
 rw [←rowA_sets (enc:=encR) (s:=s) h]
 unfold rowA SR2
 rw [List.getElem?_append_left (by rw [setsL_len];omega)]
theorem sr2_13 {s s':Ptb}:rowA (SR2 s s') 13=encU 15 s':=by
 unfold rowA SR2
 rw [List.getElem?_append_right (by rw [setsL_len];omega),setsL_len];rfl
theorem sr2_hi {s s':Ptb} {n:Nat} (h:n<13):rowA (SR2 s s') (14+n)=blkO encR (s'.sg n):=by
 rw [←rowA_sets (enc:=encR) (s:=s') h]
 unfold rowA SR2
 rw [List.getElem?_append_right (by rw [setsL_len];omega),setsL_len,show 14+n - 13=n+1 by omega,List.getElem?_cons_succ]
theorem sr2_len {s s':Ptb}:(SR2 s s').length=27:=by simp [SR2,setsL_len]
theorem su_F {s s':Ptb} {i:Nat} (hi:i<13):SuF 27 i (encU 1 s) (rowA (SR2 s s') 13) (SR2 s s') (rp 27 (SR2 s s')) (s.at_ i) (s'.at_ i) (s.sg i) (s'.sg i):=by
 rw [sr2_13]
 refine ⟨by rw [encU_len];omega,by rw [encU_len];omega,U_row hi,U_row hi,?_,?_,rowsA_same _ 27⟩
 ·have h:=U_ptr (b:=1) (s:=s) hi
  cases e:s.sg i with
  | none=>exact .inl ⟨rfl,by rw [ptr_nil h,e];rfl⟩
  | some q=>
   rw [e] at h
   refine .inr ⟨q,i,rfl,by rw [ptr_nil h];rfl,?_,?_,?_,by omega,by rw [sr2_len];omega,by rw [sr2_lo hi,e];rfl⟩
   ·unfold isPA;rw [h]
    simp only [ptrO,Bool.and_eq_true]
    exact ⟨Nat.ble_eq_true_of_le (by omega),Nat.ble_eq_true_of_le (by omega)⟩
   ·unfold fkA;rw [h]
    show 1+i - 1=i;omega
   ·unfold foA;rw [h];rfl
 ·have h:=U_ptr (b:=15) (s:=s') hi
  cases e:s'.sg i with
  | none=>exact .inl ⟨rfl,by rw [ptr_nil h,e];rfl⟩
  | some q=>
   rw [e] at h
   refine .inr ⟨q,14+i,rfl,by rw [ptr_nil h];rfl,?_,?_,?_,by omega,by rw [sr2_len];omega,by rw [sr2_hi hi,e];rfl⟩
   ·unfold isPA;rw [h]
    simp only [ptrO,Bool.and_eq_true]
    exact ⟨Nat.ble_eq_true_of_le (by omega),Nat.ble_eq_true_of_le (by omega)⟩
   ·unfold fkA;rw [h]
    show 15+i - 1=14+i;omega
   ·unfold foA;rw [h];rfl
theorem two_bndR {s s':Ptb} {m:Nat} (hm:28≤m):hpB m (two tsR s s')=true:=by
 unfold two
 exact hpB_app (canB_hpB tsR_ok (s:=s) (b:=1) (by omega)) (canB_hpB tsR_ok (by omega))
theorem su_loop (G:Nat→List AV) (B:Nat) {s s':Ptb} (hw:Wf s) (hw':Wf s'):AWp (⟨Try.prog,G,B⟩:Ctx) 28 (.loop (loopN Try.f19 0)) (fl 51 [0,1,4,5] [.ptr (.rw 0) 0,.ptr (.rw 14) 0,.bool false,.int .i64 1]) (vHp G (HSd (.var 1 (encU 1 s)) (.var 2 (SR2 s s')))) (lv 51 [0,1,4,5] (LOut.post G 28 (.tst (.var 9 (sameT s s')) (.one (.exit 0) [.undef,.undef,.undef,.undef] (HSd (.var 1 (encU 1 s)) (.var 2 (SR2 s s')))) (.one .ret [.undef,.undef,.bool (.lit false),.undef] (HSd (.var 1 (encU 1 s)) (.var 2 (SR2 s s'))))))):=by
 refine scanP (fun i=>∀ j,j<13→j<i+1→(pcB (s.at_ j) (s'.at_ j)&&sgoB (s.sg j) (s'.sg j))=true) 12 (fun i=>[.ptr (.rw 0) 0,.ptr (.rw 14) 0,.bool false,.int .i64 ((i+1:Nat):Int)]) (fun _=>vHp G (HSd (.var 1 (encU 1 s)) (.var 2 (SR2 s s')))) (fun j hj h=>?_) fun i hi hP=>?_
 ·have:j=0:=by omega
  subst this
  rw [(hw.z 0 (.inl rfl)).1,(hw.z 0 (.inl rfl)).2,(hw'.z 0 (.inl rfl)).1,(hw'.z 0 (.inl rfl)).2];rfl
 refine dloop_ok (C:=(⟨Try.prog,G,B⟩:Ctx)) (K:=Df Try.prog [(75,1,27)] [] [(52,sameF sideD)] [] 0) (fuel:=400) (n0:=20) (m:=28) (c:=loopN Try.f19 0)
  (vs:=[.ptr (.rw 0) (.lit 0),.ptr (.rw 14) (.lit 0),.bool (.lit false),.int .i64 (.ofN (.var 8 (i+1)))]) (H:=(HSd (.var 1 (encU 1 s)) (.var 2 (SR2 s s')))) (by rw [show loopsOf (loopN Try.f19 0)=[] by kernel_rfl];exact dgoodf (mix G B) (by kernel_rfl) (.cons (sameFR_ok G B) .nil) .nil) (by simp [HSd]) ?_
 unfold sideD
 rw [su_b]
 refine su_tree (K:=27) (x:=s.at_ (i+1)) (y:=s'.at_ (i+1)) (u:=s.sg (i+1)) (v:=s'.sg (i+1)) (fun hi=>su_F hi) (fun hi hb=>?_) (fun hi hb=>?_) (fun hi=>?_)
 ·refine ⟨by omega,fun j hj hji=>?_,.inl ⟨by rw [i64_in (by omega)];rfl,rfl⟩⟩
  by_cases e:j=i+1
  ·subst e;exact hb
  ·exact hP j hj (by omega)
 ·refine .inr ⟨?_,rfl,.inl ⟨?_,rfl⟩⟩
  ·show sameT s s'=false
   cases hs:sameT s s' with
   | false=>rfl
   | true=>
    unfold sameT at hs
    rw [List.all_eq_true] at hs
    rw [hs (i+1) (List.mem_range.2 hi)] at hb;cases hb
  ·simp [wk,vVs,vV,vB]
 ·refine .inl ⟨?_,rfl,.inl ⟨trivial,rfl⟩⟩
  show sameT s s'=true
  unfold sameT
  rw [List.all_eq_true]
  intro j hj
  exact hP j (List.mem_range.1 hj) (by have:=List.mem_range.1 hj;omega)
theorem r_sameM (G:Nat→List AV) (B:Nat) {s s':Ptb} (hw:Wf s) (hw':Wf s'):ACalls (⟨Try.prog,G,B⟩:Ctx) 19 [.ptr (.rw 0) 0,.ptr (.rw 14) 0] (two tsR s s') fun v H'=>v=.bool (sameT s s')∧H'=two tsR s s':=by
 have h:=dcall_ok (C:=(⟨Try.prog,G,B⟩:Ctx)) (K:=Dc Try.prog [] [] [DLat 2378 (isSt [.ptr (.rw 0) 0,.ptr (.rw 14) 0,.bool false,.int .i64 1] (vHp G (HSd (.var 1 (encU 1 s)) (.var 2 (SR2 s s'))))) 0 51 [0,1,4,5] (.tst (.var 9 (sameT s s')) (.one (.exit 0) [.undef,.undef,.undef,.undef] (HSd (.var 1 (encU 1 s)) (.var 2 (SR2 s s')))) (.one .ret [.undef,.undef,.bool (.lit false),.undef] (HSd (.var 1 (encU 1 s)) (.var 2 (SR2 s s')))))] 28) (fuel:=300) (n0:=20) (f:=19) (fn:=Try.f19) (args:=[.ptr (.rw 0) (.lit 0),.ptr (.rw 14) (.lit 0)]) (H:=(HSd (.var 1 (encU 1 s)) (.var 2 (SR2 s s')))) (keep:=28)
  (R:=fun v H=>v=.bool (sameT s s')∧H=vHp G (HSd (.var 1 (encU 1 s)) (.var 2 (SR2 s s')))) (dgood (mix G B) (by kernel_rfl) .nil (.cast (.cons (i:=0) (by kernel_rfl) rfl (DLat_okC rfl (su_loop G B hw hw')) .nil) (by kernel_rfl))) (by kernel_rfl) (by kernel_rfl) (by kernel_rfl) (by
  rw [su_c]
  exact ⟨isSt_refl,fun h=>⟨by rw [h],rfl⟩,fun h=>⟨by rw [h],rfl⟩⟩)
 rw [hSR2] at h
 refine ACalls.keep (k:=28) h (by rw [two_len];exact Nat.le_refl _) ?_ rfl (by simp)
 rw [two_len];exact two_bndR (by omega)
end Go.Am
