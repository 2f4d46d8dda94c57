/-
  Processes: the program's Same: trees.
-/
import Derived.Test.YtkabjomhnddnoaaPart21
namespace Go.Am
open Go.Proofs Crc
set_option maxRecDepth 100000
def HSd (T1 S:EL):DHp:=[some ⟨1,T1⟩,some ⟨1,.row S (.lit 0)⟩,some ⟨1,.row S (.lit 1)⟩,some ⟨1,.row S (.lit 2)⟩,some ⟨1,.row S (.lit 3)⟩,some ⟨1,.row S (.lit 4)⟩,some ⟨1,.row S (.lit 5)⟩,some ⟨1,.row S (.lit 6)⟩,some ⟨1,.row S (.lit 7)⟩,some ⟨1,.row S (.lit 8)⟩,some ⟨1,.row S (.lit 9)⟩,some ⟨1,.row S (.lit 10)⟩,some ⟨1,.row S (.lit 11)⟩,some ⟨1,.row S (.lit 12)⟩,some ⟨1,.row S (.lit 13)⟩,some ⟨1,.row S (.lit 14)⟩,some ⟨1,.row S (.lit 15)⟩,some ⟨1,.row S (.lit 16)⟩,some ⟨1,.row S (.lit 17)⟩,some ⟨1,.row S (.lit 18)⟩,some ⟨1,.row S (.lit 19)⟩,some ⟨1,.row S (.lit 20)⟩,some ⟨1,.row S (.lit 21)⟩,some ⟨1,.row S (.lit 22)⟩,some ⟨1,.row S (.lit 23)⟩,some ⟨1,.row S (.lit 24)⟩,some ⟨1,.row S (.lit 25)⟩,some ⟨1,.row S (.lit 26)⟩]
theorem sm_b (G:Nat→List AV) (ta sl ar:List AV) (i:Nat) (Q:Ex→List AV→Hp→Prop) (R:AV→Hp→Prop):vT G Q R (dloop (Df Try.prog [(48,1,27)] [36] [(24,sameF sideP)] [] 0) 400 20 28 (loopN Try.f15 0) 52 [1,4,23,24] [.ptr (.rw 14) (.lit 0),.bool (.lit false),.agg (.var 25 ar),.int .i64 (.ofN (.var 8 i))] (HSd (.var 1 ta) (.var 2 sl)))=(
  (decide ((((i:Nat):Int):Int)<13)=true→
 decide ((0:Int)≤((i:Nat):Int))=true∧
 decide ((((i:Nat):Int):Int)<13)=true∧
 leB ((i)*7+7) (List.length ar)=true∧
 cellsB (subL ar ((i)*7) (7))=true∧
 Nat.beq (List.length (subL ar ((i)*7) (7))) (7)=true∧
 leB (6) (List.length (subL ar ((i)*7) (7)))=true∧
 decide ((0:Int)≤((i:Nat):Int))=true∧
 decide ((((i:Nat):Int):Int)<13)=true∧
 leB ((i)*7+7) (List.length (rowA sl (13)))=true∧
 isI .i64 (subL (subL ar ((i)*7) (7)) (0) (6)) (0)=true∧
 isI .i64 (subL (rowA sl (13)) ((i)*7+1) (6)) (0)=true∧
 isI .i64 (subL (subL ar ((i)*7) (7)) (0) (6)) (1)=true∧
 isI .i64 (subL (rowA sl (13)) ((i)*7+1) (6)) (1)=true∧
 isI .i64 (subL (subL ar ((i)*7) (7)) (0) (6)) (2)=true∧
 isI .i64 (subL (rowA sl (13)) ((i)*7+1) (6)) (2)=true∧
 isI .i64 (subL (subL ar ((i)*7) (7)) (0) (6)) (3)=true∧
 isI .i64 (subL (rowA sl (13)) ((i)*7+1) (6)) (3)=true∧
 isB (subL (subL ar ((i)*7) (7)) (0) (6)) (4)=true∧
 isB (subL (rowA sl (13)) ((i)*7+1) (6)) (4)=true∧
 isI .i64 (subL (subL ar ((i)*7) (7)) (0) (6)) (5)=true∧
 isI .i64 (subL (rowA sl (13)) ((i)*7+1) (6)) (5)=true∧
 (((getI (subL (subL ar ((i)*7) (7)) (0) (6)) (0):Int)==getI (subL (rowA sl (13)) ((i)*7+1) (6)) (0))=true→
 (((getI (subL (subL ar ((i)*7) (7)) (0) (6)) (1):Int)==getI (subL (rowA sl (13)) ((i)*7+1) (6)) (1))=true→
 (((getI (subL (subL ar ((i)*7) (7)) (0) (6)) (2):Int)==getI (subL (rowA sl (13)) ((i)*7+1) (6)) (2))=true→
 (((getI (subL (subL ar ((i)*7) (7)) (0) (6)) (3):Int)==getI (subL (rowA sl (13)) ((i)*7+1) (6)) (3))=true→
 (getB (subL (subL ar ((i)*7) (7)) (0) (6)) (4)=true→
 (getB (subL (rowA sl (13)) ((i)*7+1) (6)) (4)=true→
 (((getI (subL (subL ar ((i)*7) (7)) (0) (6)) (5):Int)==getI (subL (rowA sl (13)) ((i)*7+1) (6)) (5))=true→
 (isNilA (subL ar ((i)*7) (7)) (6)=true→
 decide ((0:Int)≤((i:Nat):Int))=true∧
 decide ((((i:Nat):Int):Int)<13)=true∧
 (isNilA (rowA sl (13)) ((i)*7+7)=true→
 Q .normal [.ptr (.rw 14) (0),.bool (false),.agg ar,.int .i64 (IntKind.wrap .i64 (((i:Nat):Int)+1))] ([some ⟨1,ta⟩]++(rows13 sl++([some ⟨1,(rowA sl (13))⟩,some ⟨1,(rowA sl (14))⟩,some ⟨1,(rowA sl (15))⟩,some ⟨1,(rowA sl (16))⟩,some ⟨1,(rowA sl (17))⟩,some ⟨1,(rowA sl (18))⟩,some ⟨1,(rowA sl (19))⟩,some ⟨1,(rowA sl (20))⟩,some ⟨1,(rowA sl (21))⟩,some ⟨1,(rowA sl (22))⟩,some ⟨1,(rowA sl (23))⟩,some ⟨1,(rowA sl (24))⟩,some ⟨1,(rowA sl (25))⟩,some ⟨1,(rowA sl (26))⟩,some ⟨1,(subL ar ((i)*7) (7))⟩]))))∧
 (isNilA (rowA sl (13)) ((i)*7+7)=false→
 isPA 1 27 (rowA sl (13)) ((i)*7+7)=true∧
 Nat.beq (foA (rowA sl (13)) ((i)*7+7)) (0)=true∧
 leB (fkA 1 (rowA sl (13)) ((i)*7+7)+1) (27)=true∧
 rowsA sl (rp 27 sl)=true∧
 leB (fkA 1 (rowA sl (13)) ((i)*7+7)+1) (List.length sl)=true∧
 okU [.agg (rowA sl (fkA 1 (rowA sl (13)) ((i)*7+7)))]=true∧
 Q .ret [.ptr (.rw 14) (0),.bool (false),.agg ar,.int .i64 (((i:Nat):Int))] ([some ⟨1,ta⟩]++(rows13 sl++([some ⟨1,(rowA sl (13))⟩,some ⟨1,(rowA sl (14))⟩,some ⟨1,(rowA sl (15))⟩,some ⟨1,(rowA sl (16))⟩,some ⟨1,(rowA sl (17))⟩,some ⟨1,(rowA sl (18))⟩,some ⟨1,(rowA sl (19))⟩,some ⟨1,(rowA sl (20))⟩,some ⟨1,(rowA sl (21))⟩,some ⟨1,(rowA sl (22))⟩,some ⟨1,(rowA sl (23))⟩,some ⟨1,(rowA sl (24))⟩,some ⟨1,(rowA sl (25))⟩,some ⟨1,(rowA sl (26))⟩,some ⟨1,(subL ar ((i)*7) (7))⟩])))))∧
 (isNilA (subL ar ((i)*7) (7)) (6)=false→
 isPA 1 27 (subL ar ((i)*7) (7)) (6)=true∧
 decide ((0:Int)≤((i:Nat):Int))=true∧
 decide ((((i:Nat):Int):Int)<13)=true∧
 (isNilA (rowA sl (13)) ((i)*7+7)=true→
 Nat.beq (foA (subL ar ((i)*7) (7)) (6)) (0)=true∧
 leB (fkA 1 (subL ar ((i)*7) (7)) (6)+1) (27)=true∧
 rowsA sl (rp 27 sl)=true∧
 leB (fkA 1 (subL ar ((i)*7) (7)) (6)+1) (List.length sl)=true∧
 okU [.agg (rowA sl (fkA 1 (subL ar ((i)*7) (7)) (6)))]=true∧
 Q .ret [.ptr (.rw 14) (0),.bool (false),.agg ar,.int .i64 (((i:Nat):Int))] ([some ⟨1,ta⟩]++(rows13 sl++([some ⟨1,(rowA sl (13))⟩,some ⟨1,(rowA sl (14))⟩,some ⟨1,(rowA sl (15))⟩,some ⟨1,(rowA sl (16))⟩,some ⟨1,(rowA sl (17))⟩,some ⟨1,(rowA sl (18))⟩,some ⟨1,(rowA sl (19))⟩,some ⟨1,(rowA sl (20))⟩,some ⟨1,(rowA sl (21))⟩,some ⟨1,(rowA sl (22))⟩,some ⟨1,(rowA sl (23))⟩,some ⟨1,(rowA sl (24))⟩,some ⟨1,(rowA sl (25))⟩,some ⟨1,(rowA sl (26))⟩,some ⟨1,(subL ar ((i)*7) (7))⟩]))))∧
 (isNilA (rowA sl (13)) ((i)*7+7)=false→
 isPA 1 27 (rowA sl (13)) ((i)*7+7)=true∧
 Nat.beq (foA (subL ar ((i)*7) (7)) (6)) (0)=true∧
 leB (fkA 1 (subL ar ((i)*7) (7)) (6)+1) (27)=true∧
 rowsA sl (rp 27 sl)=true∧
 leB (fkA 1 (subL ar ((i)*7) (7)) (6)+1) (List.length sl)=true∧
 okU [.agg (rowA sl (fkA 1 (subL ar ((i)*7) (7)) (6)))]=true∧
 Nat.beq (foA (rowA sl (13)) ((i)*7+7)) (0)=true∧
 leB (fkA 1 (rowA sl (13)) ((i)*7+7)+1) (27)=true∧
 rowsA sl (rp 27 sl)=true∧
 leB (fkA 1 (rowA sl (13)) ((i)*7+7)+1) (List.length sl)=true∧
 okU [.agg (rowA sl (fkA 1 (rowA sl (13)) ((i)*7+7)))]=true∧
 (sameU [.agg (rowA sl (fkA 1 (subL ar ((i)*7) (7)) (6))),.agg (rowA sl (fkA 1 (rowA sl (13)) ((i)*7+7)))]=true→
 Q .normal [.ptr (.rw 14) (0),.bool (false),.agg ar,.int .i64 (IntKind.wrap .i64 (((i:Nat):Int)+1))] ([some ⟨1,ta⟩]++(rows13 sl++([some ⟨1,(rowA sl (13))⟩,some ⟨1,(rowA sl (14))⟩,some ⟨1,(rowA sl (15))⟩,some ⟨1,(rowA sl (16))⟩,some ⟨1,(rowA sl (17))⟩,some ⟨1,(rowA sl (18))⟩,some ⟨1,(rowA sl (19))⟩,some ⟨1,(rowA sl (20))⟩,some ⟨1,(rowA sl (21))⟩,some ⟨1,(rowA sl (22))⟩,some ⟨1,(rowA sl (23))⟩,some ⟨1,(rowA sl (24))⟩,some ⟨1,(rowA sl (25))⟩,some ⟨1,(rowA sl (26))⟩,some ⟨1,(subL ar ((i)*7) (7))⟩]))))∧
 (sameU [.agg (rowA sl (fkA 1 (subL ar ((i)*7) (7)) (6))),.agg (rowA sl (fkA 1 (rowA sl (13)) ((i)*7+7)))]=false→
 Q .ret [.ptr (.rw 14) (0),.bool (false),.agg ar,.int .i64 (((i:Nat):Int))] ([some ⟨1,ta⟩]++(rows13 sl++([some ⟨1,(rowA sl (13))⟩,some ⟨1,(rowA sl (14))⟩,some ⟨1,(rowA sl (15))⟩,some ⟨1,(rowA sl (16))⟩,some ⟨1,(rowA sl (17))⟩,some ⟨1,(rowA sl (18))⟩,some ⟨1,(rowA sl (19))⟩,some ⟨1,(rowA sl (20))⟩,some ⟨1,(rowA sl (21))⟩,some ⟨1,(rowA sl (22))⟩,some ⟨1,(rowA sl (23))⟩,some ⟨1,(rowA sl (24))⟩,some ⟨1,(rowA sl (25))⟩,some ⟨1,(rowA sl (26))⟩,some ⟨1,(subL ar ((i)*7) (7))⟩])))))))∧
 (((getI (subL (subL ar ((i)*7) (7)) (0) (6)) (5):Int)==getI (subL (rowA sl (13)) ((i)*7+1) (6)) (5))=false→
 Q .ret [.ptr (.rw 14) (0),.bool (false),.agg ar,.int .i64 (((i:Nat):Int))] ([some ⟨1,ta⟩]++(rows13 sl++([some ⟨1,(rowA sl (13))⟩,some ⟨1,(rowA sl (14))⟩,some ⟨1,(rowA sl (15))⟩,some ⟨1,(rowA sl (16))⟩,some ⟨1,(rowA sl (17))⟩,some ⟨1,(rowA sl (18))⟩,some ⟨1,(rowA sl (19))⟩,some ⟨1,(rowA sl (20))⟩,some ⟨1,(rowA sl (21))⟩,some ⟨1,(rowA sl (22))⟩,some ⟨1,(rowA sl (23))⟩,some ⟨1,(rowA sl (24))⟩,some ⟨1,(rowA sl (25))⟩,some ⟨1,(rowA sl (26))⟩,some ⟨1,(subL ar ((i)*7) (7))⟩])))))∧
 (getB (subL (rowA sl (13)) ((i)*7+1) (6)) (4)=false→
 Q .ret [.ptr (.rw 14) (0),.bool (false),.agg ar,.int .i64 (((i:Nat):Int))] ([some ⟨1,ta⟩]++(rows13 sl++([some ⟨1,(rowA sl (13))⟩,some ⟨1,(rowA sl (14))⟩,some ⟨1,(rowA sl (15))⟩,some ⟨1,(rowA sl (16))⟩,some ⟨1,(rowA sl (17))⟩,some ⟨1,(rowA sl (18))⟩,some ⟨1,(rowA sl (19))⟩,some ⟨1,(rowA sl (20))⟩,some ⟨1,(rowA sl (21))⟩,some ⟨1,(rowA sl (22))⟩,some ⟨1,(rowA sl (23))⟩,some ⟨1,(rowA sl (24))⟩,some ⟨1,(rowA sl (25))⟩,some ⟨1,(rowA sl (26))⟩,some ⟨1,(subL ar ((i)*7) (7))⟩])))))∧
 (getB (subL (subL ar ((i)*7) (7)) (0) (6)) (4)=false→
 (getB (subL (rowA sl (13)) ((i)*7+1) (6)) (4)=true→
 Q .ret [.ptr (.rw 14) (0),.bool (false),.agg ar,.int .i64 (((i:Nat):Int))] ([some ⟨1,ta⟩]++(rows13 sl++([some ⟨1,(rowA sl (13))⟩,some ⟨1,(rowA sl (14))⟩,some ⟨1,(rowA sl (15))⟩,some ⟨1,(rowA sl (16))⟩,some ⟨1,(rowA sl (17))⟩,some ⟨1,(rowA sl (18))⟩,some ⟨1,(rowA sl (19))⟩,some ⟨1,(rowA sl (20))⟩,some ⟨1,(rowA sl (21))⟩,some ⟨1,(rowA sl (22))⟩,some ⟨1,(rowA sl (23))⟩,some ⟨1,(rowA sl (24))⟩,some ⟨1,(rowA sl (25))⟩,some ⟨1,(rowA sl (26))⟩,some ⟨1,(subL ar ((i)*7) (7))⟩]))))∧
 (getB (subL (rowA sl (13)) ((i)*7+1) (6)) (4)=false→
 (((getI (subL (subL ar ((i)*7) (7)) (0) (6)) (5):Int)==getI (subL (rowA sl (13)) ((i)*7+1) (6)) (5))=true→
 (isNilA (subL ar ((i)*7) (7)) (6)=true→
 decide ((0:Int)≤((i:Nat):Int))=true∧
 decide ((((i:Nat):Int):Int)<13)=true∧
 (isNilA (rowA sl (13)) ((i)*7+7)=true→
 Q .normal [.ptr (.rw 14) (0),.bool (false),.agg ar,.int .i64 (IntKind.wrap .i64 (((i:Nat):Int)+1))] ([some ⟨1,ta⟩]++(rows13 sl++([some ⟨1,(rowA sl (13))⟩,some ⟨1,(rowA sl (14))⟩,some ⟨1,(rowA sl (15))⟩,some ⟨1,(rowA sl (16))⟩,some ⟨1,(rowA sl (17))⟩,some ⟨1,(rowA sl (18))⟩,some ⟨1,(rowA sl (19))⟩,some ⟨1,(rowA sl (20))⟩,some ⟨1,(rowA sl (21))⟩,some ⟨1,(rowA sl (22))⟩,some ⟨1,(rowA sl (23))⟩,some ⟨1,(rowA sl (24))⟩,some ⟨1,(rowA sl (25))⟩,some ⟨1,(rowA sl (26))⟩,some ⟨1,(subL ar ((i)*7) (7))⟩]))))∧
 (isNilA (rowA sl (13)) ((i)*7+7)=false→
 isPA 1 27 (rowA sl (13)) ((i)*7+7)=true∧
 Nat.beq (foA (rowA sl (13)) ((i)*7+7)) (0)=true∧
 leB (fkA 1 (rowA sl (13)) ((i)*7+7)+1) (27)=true∧
 rowsA sl (rp 27 sl)=true∧
 leB (fkA 1 (rowA sl (13)) ((i)*7+7)+1) (List.length sl)=true∧
 okU [.agg (rowA sl (fkA 1 (rowA sl (13)) ((i)*7+7)))]=true∧
 Q .ret [.ptr (.rw 14) (0),.bool (false),.agg ar,.int .i64 (((i:Nat):Int))] ([some ⟨1,ta⟩]++(rows13 sl++([some ⟨1,(rowA sl (13))⟩,some ⟨1,(rowA sl (14))⟩,some ⟨1,(rowA sl (15))⟩,some ⟨1,(rowA sl (16))⟩,some ⟨1,(rowA sl (17))⟩,some ⟨1,(rowA sl (18))⟩,some ⟨1,(rowA sl (19))⟩,some ⟨1,(rowA sl (20))⟩,some ⟨1,(rowA sl (21))⟩,some ⟨1,(rowA sl (22))⟩,some ⟨1,(rowA sl (23))⟩,some ⟨1,(rowA sl (24))⟩,some ⟨1,(rowA sl (25))⟩,some ⟨1,(rowA sl (26))⟩,some ⟨1,(subL ar ((i)*7) (7))⟩])))))∧
 (isNilA (subL ar ((i)*7) (7)) (6)=false→
 isPA 1 27 (subL ar ((i)*7) (7)) (6)=true∧
 decide ((0:Int)≤((i:Nat):Int))=true∧
 decide ((((i:Nat):Int):Int)<13)=true∧
 (isNilA (rowA sl (13)) ((i)*7+7)=true→
 Nat.beq (foA (subL ar ((i)*7) (7)) (6)) (0)=true∧
 leB (fkA 1 (subL ar ((i)*7) (7)) (6)+1) (27)=true∧
 rowsA sl (rp 27 sl)=true∧
 leB (fkA 1 (subL ar ((i)*7) (7)) (6)+1) (List.length sl)=true∧
 okU [.agg (rowA sl (fkA 1 (subL ar ((i)*7) (7)) (6)))]=true∧
 Q .ret [.ptr (.rw 14) (0),.bool (false),.agg ar,.int .i64 (((i:Nat):Int))] ([some ⟨1,ta⟩]++(rows13 sl++([some ⟨1,(rowA sl (13))⟩,some ⟨1,(rowA sl (14))⟩,some ⟨1,(rowA sl (15))⟩,some ⟨1,(rowA sl (16))⟩,some ⟨1,(rowA sl (17))⟩,some ⟨1,(rowA sl (18))⟩,some ⟨1,(rowA sl (19))⟩,some ⟨1,(rowA sl (20))⟩,some ⟨1,(rowA sl (21))⟩,some ⟨1,(rowA sl (22))⟩,some ⟨1,(rowA sl (23))⟩,some ⟨1,(rowA sl (24))⟩,some ⟨1,(rowA sl (25))⟩,some ⟨1,(rowA sl (26))⟩,some ⟨1,(subL ar ((i)*7) (7))⟩]))))∧
 (isNilA (rowA sl (13)) ((i)*7+7)=false→
 isPA 1 27 (rowA sl (13)) ((i)*7+7)=true∧
 Nat.beq (foA (subL ar ((i)*7) (7)) (6)) (0)=true∧
 leB (fkA 1 (subL ar ((i)*7) (7)) (6)+1) (27)=true∧
 rowsA sl (rp 27 sl)=true∧
 leB (fkA 1 (subL ar ((i)*7) (7)) (6)+1) (List.length sl)=true∧
 okU [.agg (rowA sl (fkA 1 (subL ar ((i)*7) (7)) (6)))]=true∧
 Nat.beq (foA (rowA sl (13)) ((i)*7+7)) (0)=true∧
 leB (fkA 1 (rowA sl (13)) ((i)*7+7)+1) (27)=true∧
 rowsA sl (rp 27 sl)=true∧
 leB (fkA 1 (rowA sl (13)) ((i)*7+7)+1) (List.length sl)=true∧
 okU [.agg (rowA sl (fkA 1 (rowA sl (13)) ((i)*7+7)))]=true∧
 (sameU [.agg (rowA sl (fkA 1 (subL ar ((i)*7) (7)) (6))),.agg (rowA sl (fkA 1 (rowA sl (13)) ((i)*7+7)))]=true→
 Q .normal [.ptr (.rw 14) (0),.bool (false),.agg ar,.int .i64 (IntKind.wrap .i64 (((i:Nat):Int)+1))] ([some ⟨1,ta⟩]++(rows13 sl++([some ⟨1,(rowA sl (13))⟩,some ⟨1,(rowA sl (14))⟩,some ⟨1,(rowA sl (15))⟩,some ⟨1,(rowA sl (16))⟩,some ⟨1,(rowA sl (17))⟩,some ⟨1,(rowA sl (18))⟩,some ⟨1,(rowA sl (19))⟩,some ⟨1,(rowA sl (20))⟩,some ⟨1,(rowA sl (21))⟩,some ⟨1,(rowA sl (22))⟩,some ⟨1,(rowA sl (23))⟩,some ⟨1,(rowA sl (24))⟩,some ⟨1,(rowA sl (25))⟩,some ⟨1,(rowA sl (26))⟩,some ⟨1,(subL ar ((i)*7) (7))⟩]))))∧
 (sameU [.agg (rowA sl (fkA 1 (subL ar ((i)*7) (7)) (6))),.agg (rowA sl (fkA 1 (rowA sl (13)) ((i)*7+7)))]=false→
 Q .ret [.ptr (.rw 14) (0),.bool (false),.agg ar,.int .i64 (((i:Nat):Int))] ([some ⟨1,ta⟩]++(rows13 sl++([some ⟨1,(rowA sl (13))⟩,some ⟨1,(rowA sl (14))⟩,some ⟨1,(rowA sl (15))⟩,some ⟨1,(rowA sl (16))⟩,some ⟨1,(rowA sl (17))⟩,some ⟨1,(rowA sl (18))⟩,some ⟨1,(rowA sl (19))⟩,some ⟨1,(rowA sl (20))⟩,some ⟨1,(rowA sl (21))⟩,some ⟨1,(rowA sl (22))⟩,some ⟨1,(rowA sl (23))⟩,some ⟨1,(rowA sl (24))⟩,some ⟨1,(rowA sl (25))⟩,some ⟨1,(rowA sl (26))⟩,some ⟨1,(subL ar ((i)*7) (7))⟩])))))))∧
 (((getI (subL (subL ar ((i)*7) (7)) (0) (6)) (5):Int)==getI (subL (rowA sl (13)) ((i)*7+1) (6)) (5))=false→
 Q .ret [.ptr (.rw 14) (0),.bool (false),.agg ar,.int .i64 (((i:Nat):Int))] ([some ⟨1,ta⟩]++(rows13 sl++([some ⟨1,(rowA sl (13))⟩,some ⟨1,(rowA sl (14))⟩,some ⟨1,(rowA sl (15))⟩,some ⟨1,(rowA sl (16))⟩,some ⟨1,(rowA sl (17))⟩,some ⟨1,(rowA sl (18))⟩,some ⟨1,(rowA sl (19))⟩,some ⟨1,(rowA sl (20))⟩,some ⟨1,(rowA sl (21))⟩,some ⟨1,(rowA sl (22))⟩,some ⟨1,(rowA sl (23))⟩,some ⟨1,(rowA sl (24))⟩,some ⟨1,(rowA sl (25))⟩,some ⟨1,(rowA sl (26))⟩,some ⟨1,(subL ar ((i)*7) (7))⟩])))))))∧
 (((getI (subL (subL ar ((i)*7) (7)) (0) (6)) (3):Int)==getI (subL (rowA sl (13)) ((i)*7+1) (6)) (3))=false→
 Q .ret [.ptr (.rw 14) (0),.bool (false),.agg ar,.int .i64 (((i:Nat):Int))] ([some ⟨1,ta⟩]++(rows13 sl++([some ⟨1,(rowA sl (13))⟩,some ⟨1,(rowA sl (14))⟩,some ⟨1,(rowA sl (15))⟩,some ⟨1,(rowA sl (16))⟩,some ⟨1,(rowA sl (17))⟩,some ⟨1,(rowA sl (18))⟩,some ⟨1,(rowA sl (19))⟩,some ⟨1,(rowA sl (20))⟩,some ⟨1,(rowA sl (21))⟩,some ⟨1,(rowA sl (22))⟩,some ⟨1,(rowA sl (23))⟩,some ⟨1,(rowA sl (24))⟩,some ⟨1,(rowA sl (25))⟩,some ⟨1,(rowA sl (26))⟩,some ⟨1,(subL ar ((i)*7) (7))⟩])))))∧
 (((getI (subL (subL ar ((i)*7) (7)) (0) (6)) (2):Int)==getI (subL (rowA sl (13)) ((i)*7+1) (6)) (2))=false→
 Q .ret [.ptr (.rw 14) (0),.bool (false),.agg ar,.int .i64 (((i:Nat):Int))] ([some ⟨1,ta⟩]++(rows13 sl++([some ⟨1,(rowA sl (13))⟩,some ⟨1,(rowA sl (14))⟩,some ⟨1,(rowA sl (15))⟩,some ⟨1,(rowA sl (16))⟩,some ⟨1,(rowA sl (17))⟩,some ⟨1,(rowA sl (18))⟩,some ⟨1,(rowA sl (19))⟩,some ⟨1,(rowA sl (20))⟩,some ⟨1,(rowA sl (21))⟩,some ⟨1,(rowA sl (22))⟩,some ⟨1,(rowA sl (23))⟩,some ⟨1,(rowA sl (24))⟩,some ⟨1,(rowA sl (25))⟩,some ⟨1,(rowA sl (26))⟩,some ⟨1,(subL ar ((i)*7) (7))⟩])))))∧
 (((getI (subL (subL ar ((i)*7) (7)) (0) (6)) (1):Int)==getI (subL (rowA sl (13)) ((i)*7+1) (6)) (1))=false→
 Q .ret [.ptr (.rw 14) (0),.bool (false),.agg ar,.int .i64 (((i:Nat):Int))] ([some ⟨1,ta⟩]++(rows13 sl++([some ⟨1,(rowA sl (13))⟩,some ⟨1,(rowA sl (14))⟩,some ⟨1,(rowA sl (15))⟩,some ⟨1,(rowA sl (16))⟩,some ⟨1,(rowA sl (17))⟩,some ⟨1,(rowA sl (18))⟩,some ⟨1,(rowA sl (19))⟩,some ⟨1,(rowA sl (20))⟩,some ⟨1,(rowA sl (21))⟩,some ⟨1,(rowA sl (22))⟩,some ⟨1,(rowA sl (23))⟩,some ⟨1,(rowA sl (24))⟩,some ⟨1,(rowA sl (25))⟩,some ⟨1,(rowA sl (26))⟩,some ⟨1,(subL ar ((i)*7) (7))⟩])))))∧
 (((getI (subL (subL ar ((i)*7) (7)) (0) (6)) (0):Int)==getI (subL (rowA sl (13)) ((i)*7+1) (6)) (0))=false→
 Q .ret [.ptr (.rw 14) (0),.bool (false),.agg ar,.int .i64 (((i:Nat):Int))] ([some ⟨1,ta⟩]++(rows13 sl++([some ⟨1,(rowA sl (13))⟩,some ⟨1,(rowA sl (14))⟩,some ⟨1,(rowA sl (15))⟩,some ⟨1,(rowA sl (16))⟩,some ⟨1,(rowA sl (17))⟩,some ⟨1,(rowA sl (18))⟩,some ⟨1,(rowA sl (19))⟩,some ⟨1,(rowA sl (20))⟩,some ⟨1,(rowA sl (21))⟩,some ⟨1,(rowA sl (22))⟩,some ⟨1,(rowA sl (23))⟩,some ⟨1,(rowA sl (24))⟩,some ⟨1,(rowA sl (25))⟩,some ⟨1,(rowA sl (26))⟩,some ⟨1,(subL ar ((i)*7) (7))⟩])))))∧
 (decide ((((i:Nat):Int):Int)<13)=false→
 Q (.exit 0) [.ptr (.rw 14) (0),.bool (false),.agg ar,.int .i64 (((i:Nat):Int))] ([some ⟨1,ta⟩]++(rows13 sl++([some ⟨1,(rowA sl (13))⟩,some ⟨1,(rowA sl (14))⟩,some ⟨1,(rowA sl (15))⟩,some ⟨1,(rowA sl (16))⟩,some ⟨1,(rowA sl (17))⟩,some ⟨1,(rowA sl (18))⟩,some ⟨1,(rowA sl (19))⟩,some ⟨1,(rowA sl (20))⟩,some ⟨1,(rowA sl (21))⟩,some ⟨1,(rowA sl (22))⟩,some ⟨1,(rowA sl (23))⟩,some ⟨1,(rowA sl (24))⟩,some ⟨1,(rowA sl (25))⟩,some ⟨1,(rowA sl (26))⟩]))))):=by kernel_rfl
theorem sm_bx (G:Nat→List AV) (ta sl ar:List AV) (i:Nat) (Q:Ex→List AV→Hp→Prop) (R:AV→Hp→Prop):vT G Q R (dloop (Df Try.prog [(48,1,13)] [36] [(24,sameF sideP)] [] 0) 400 20 14 (loopN Try.f15 0) 52 [1,4,23,24] [.ptr (.rw 0) (.lit 0),.bool (.lit false),.agg (.var 25 ar),.int .i64 (.ofN (.var 8 i))] (hp3 [some ⟨1,.var 1 ta⟩] (.var 2 sl) []))=(
  (decide ((((i:Nat):Int):Int)<13)=true→
 decide ((0:Int)≤((i:Nat):Int))=true∧
 decide ((((i:Nat):Int):Int)<13)=true∧
 leB ((i)*7+7) (List.length ar)=true∧
 cellsB (subL ar ((i)*7) (7))=true∧
 Nat.beq (List.length (subL ar ((i)*7) (7))) (7)=true∧
 leB (6) (List.length (subL ar ((i)*7) (7)))=true∧
 decide ((0:Int)≤((i:Nat):Int))=true∧
 decide ((((i:Nat):Int):Int)<13)=true∧
 leB ((i)*7+7) (List.length ta)=true∧
 isI .i64 (subL (subL ar ((i)*7) (7)) (0) (6)) (0)=true∧
 isI .i64 (subL ta ((i)*7+1) (6)) (0)=true∧
 isI .i64 (subL (subL ar ((i)*7) (7)) (0) (6)) (1)=true∧
 isI .i64 (subL ta ((i)*7+1) (6)) (1)=true∧
 isI .i64 (subL (subL ar ((i)*7) (7)) (0) (6)) (2)=true∧
 isI .i64 (subL ta ((i)*7+1) (6)) (2)=true∧
 isI .i64 (subL (subL ar ((i)*7) (7)) (0) (6)) (3)=true∧
 isI .i64 (subL ta ((i)*7+1) (6)) (3)=true∧
 isB (subL (subL ar ((i)*7) (7)) (0) (6)) (4)=true∧
 isB (subL ta ((i)*7+1) (6)) (4)=true∧
 isI .i64 (subL (subL ar ((i)*7) (7)) (0) (6)) (5)=true∧
 isI .i64 (subL ta ((i)*7+1) (6)) (5)=true∧
 (((getI (subL (subL ar ((i)*7) (7)) (0) (6)) (0):Int)==getI (subL ta ((i)*7+1) (6)) (0))=true→
 (((getI (subL (subL ar ((i)*7) (7)) (0) (6)) (1):Int)==getI (subL ta ((i)*7+1) (6)) (1))=true→
 (((getI (subL (subL ar ((i)*7) (7)) (0) (6)) (2):Int)==getI (subL ta ((i)*7+1) (6)) (2))=true→
 (((getI (subL (subL ar ((i)*7) (7)) (0) (6)) (3):Int)==getI (subL ta ((i)*7+1) (6)) (3))=true→
 (getB (subL (subL ar ((i)*7) (7)) (0) (6)) (4)=true→
 (getB (subL ta ((i)*7+1) (6)) (4)=true→
 (((getI (subL (subL ar ((i)*7) (7)) (0) (6)) (5):Int)==getI (subL ta ((i)*7+1) (6)) (5))=true→
 (isNilA (subL ar ((i)*7) (7)) (6)=true→
 decide ((0:Int)≤((i:Nat):Int))=true∧
 decide ((((i:Nat):Int):Int)<13)=true∧
 (isNilA ta ((i)*7+7)=true→
 Q .normal [.ptr (.rw 0) (0),.bool (false),.agg ar,.int .i64 (IntKind.wrap .i64 (((i:Nat):Int)+1))] ([some ⟨1,ta⟩]++(rows13 sl++[some ⟨1,(subL ar ((i)*7) (7))⟩])))∧
 (isNilA ta ((i)*7+7)=false→
 isPA 1 13 ta ((i)*7+7)=true∧
 Nat.beq (foA ta ((i)*7+7)) (0)=true∧
 leB (fkA 1 ta ((i)*7+7)+1) (13)=true∧
 rowsA sl (rp 13 sl)=true∧
 leB (fkA 1 ta ((i)*7+7)+1) (List.length sl)=true∧
 okU [.agg (rowA sl (fkA 1 ta ((i)*7+7)))]=true∧
 Q .ret [.ptr (.rw 0) (0),.bool (false),.agg ar,.int .i64 (((i:Nat):Int))] ([some ⟨1,ta⟩]++(rows13 sl++[some ⟨1,(subL ar ((i)*7) (7))⟩]))))∧
 (isNilA (subL ar ((i)*7) (7)) (6)=false→
 isPA 1 13 (subL ar ((i)*7) (7)) (6)=true∧
 decide ((0:Int)≤((i:Nat):Int))=true∧
 decide ((((i:Nat):Int):Int)<13)=true∧
 (isNilA ta ((i)*7+7)=true→
 Nat.beq (foA (subL ar ((i)*7) (7)) (6)) (0)=true∧
 leB (fkA 1 (subL ar ((i)*7) (7)) (6)+1) (13)=true∧
 rowsA sl (rp 13 sl)=true∧
 leB (fkA 1 (subL ar ((i)*7) (7)) (6)+1) (List.length sl)=true∧
 okU [.agg (rowA sl (fkA 1 (subL ar ((i)*7) (7)) (6)))]=true∧
 Q .ret [.ptr (.rw 0) (0),.bool (false),.agg ar,.int .i64 (((i:Nat):Int))] ([some ⟨1,ta⟩]++(rows13 sl++[some ⟨1,(subL ar ((i)*7) (7))⟩])))∧
 (isNilA ta ((i)*7+7)=false→
 isPA 1 13 ta ((i)*7+7)=true∧
 Nat.beq (foA (subL ar ((i)*7) (7)) (6)) (0)=true∧
 leB (fkA 1 (subL ar ((i)*7) (7)) (6)+1) (13)=true∧
 rowsA sl (rp 13 sl)=true∧
 leB (fkA 1 (subL ar ((i)*7) (7)) (6)+1) (List.length sl)=true∧
 okU [.agg (rowA sl (fkA 1 (subL ar ((i)*7) (7)) (6)))]=true∧
 Nat.beq (foA ta ((i)*7+7)) (0)=true∧
 leB (fkA 1 ta ((i)*7+7)+1) (13)=true∧
 rowsA sl (rp 13 sl)=true∧
 leB (fkA 1 ta ((i)*7+7)+1) (List.length sl)=true∧
 okU [.agg (rowA sl (fkA 1 ta ((i)*7+7)))]=true∧
 (sameU [.agg (rowA sl (fkA 1 (subL ar ((i)*7) (7)) (6))),.agg (rowA sl (fkA 1 ta ((i)*7+7)))]=true→
 Q .normal [.ptr (.rw 0) (0),.bool (false),.agg ar,.int .i64 (IntKind.wrap .i64 (((i:Nat):Int)+1))] ([some ⟨1,ta⟩]++(rows13 sl++[some ⟨1,(subL ar ((i)*7) (7))⟩])))∧
 (sameU [.agg (rowA sl (fkA 1 (subL ar ((i)*7) (7)) (6))),.agg (rowA sl (fkA 1 ta ((i)*7+7)))]=false→
 Q .ret [.ptr (.rw 0) (0),.bool (false),.agg ar,.int .i64 (((i:Nat):Int))] ([some ⟨1,ta⟩]++(rows13 sl++[some ⟨1,(subL ar ((i)*7) (7))⟩]))))))∧
 (((getI (subL (subL ar ((i)*7) (7)) (0) (6)) (5):Int)==getI (subL ta ((i)*7+1) (6)) (5))=false→
 Q .ret [.ptr (.rw 0) (0),.bool (false),.agg ar,.int .i64 (((i:Nat):Int))] ([some ⟨1,ta⟩]++(rows13 sl++[some ⟨1,(subL ar ((i)*7) (7))⟩]))))∧
 (getB (subL ta ((i)*7+1) (6)) (4)=false→
 Q .ret [.ptr (.rw 0) (0),.bool (false),.agg ar,.int .i64 (((i:Nat):Int))] ([some ⟨1,ta⟩]++(rows13 sl++[some ⟨1,(subL ar ((i)*7) (7))⟩]))))∧
 (getB (subL (subL ar ((i)*7) (7)) (0) (6)) (4)=false→
 (getB (subL ta ((i)*7+1) (6)) (4)=true→
 Q .ret [.ptr (.rw 0) (0),.bool (false),.agg ar,.int .i64 (((i:Nat):Int))] ([some ⟨1,ta⟩]++(rows13 sl++[some ⟨1,(subL ar ((i)*7) (7))⟩])))∧
 (getB (subL ta ((i)*7+1) (6)) (4)=false→
 (((getI (subL (subL ar ((i)*7) (7)) (0) (6)) (5):Int)==getI (subL ta ((i)*7+1) (6)) (5))=true→
 (isNilA (subL ar ((i)*7) (7)) (6)=true→
 decide ((0:Int)≤((i:Nat):Int))=true∧
 decide ((((i:Nat):Int):Int)<13)=true∧
 (isNilA ta ((i)*7+7)=true→
 Q .normal [.ptr (.rw 0) (0),.bool (false),.agg ar,.int .i64 (IntKind.wrap .i64 (((i:Nat):Int)+1))] ([some ⟨1,ta⟩]++(rows13 sl++[some ⟨1,(subL ar ((i)*7) (7))⟩])))∧
 (isNilA ta ((i)*7+7)=false→
 isPA 1 13 ta ((i)*7+7)=true∧
 Nat.beq (foA ta ((i)*7+7)) (0)=true∧
 leB (fkA 1 ta ((i)*7+7)+1) (13)=true∧
 rowsA sl (rp 13 sl)=true∧
 leB (fkA 1 ta ((i)*7+7)+1) (List.length sl)=true∧
 okU [.agg (rowA sl (fkA 1 ta ((i)*7+7)))]=true∧
 Q .ret [.ptr (.rw 0) (0),.bool (false),.agg ar,.int .i64 (((i:Nat):Int))] ([some ⟨1,ta⟩]++(rows13 sl++[some ⟨1,(subL ar ((i)*7) (7))⟩]))))∧
 (isNilA (subL ar ((i)*7) (7)) (6)=false→
 isPA 1 13 (subL ar ((i)*7) (7)) (6)=true∧
 decide ((0:Int)≤((i:Nat):Int))=true∧
 decide ((((i:Nat):Int):Int)<13)=true∧
 (isNilA ta ((i)*7+7)=true→
 Nat.beq (foA (subL ar ((i)*7) (7)) (6)) (0)=true∧
 leB (fkA 1 (subL ar ((i)*7) (7)) (6)+1) (13)=true∧
 rowsA sl (rp 13 sl)=true∧
 leB (fkA 1 (subL ar ((i)*7) (7)) (6)+1) (List.length sl)=true∧
 okU [.agg (rowA sl (fkA 1 (subL ar ((i)*7) (7)) (6)))]=true∧
 Q .ret [.ptr (.rw 0) (0),.bool (false),.agg ar,.int .i64 (((i:Nat):Int))] ([some ⟨1,ta⟩]++(rows13 sl++[some ⟨1,(subL ar ((i)*7) (7))⟩])))∧
 (isNilA ta ((i)*7+7)=false→
 isPA 1 13 ta ((i)*7+7)=true∧
 Nat.beq (foA (subL ar ((i)*7) (7)) (6)) (0)=true∧
 leB (fkA 1 (subL ar ((i)*7) (7)) (6)+1) (13)=true∧
 rowsA sl (rp 13 sl)=true∧
 leB (fkA 1 (subL ar ((i)*7) (7)) (6)+1) (List.length sl)=true∧
 okU [.agg (rowA sl (fkA 1 (subL ar ((i)*7) (7)) (6)))]=true∧
 Nat.beq (foA ta ((i)*7+7)) (0)=true∧
 leB (fkA 1 ta ((i)*7+7)+1) (13)=true∧
 rowsA sl (rp 13 sl)=true∧
 leB (fkA 1 ta ((i)*7+7)+1) (List.length sl)=true∧
 okU [.agg (rowA sl (fkA 1 ta ((i)*7+7)))]=true∧
 (sameU [.agg (rowA sl (fkA 1 (subL ar ((i)*7) (7)) (6))),.agg (rowA sl (fkA 1 ta ((i)*7+7)))]=true→
 Q .normal [.ptr (.rw 0) (0),.bool (false),.agg ar,.int .i64 (IntKind.wrap .i64 (((i:Nat):Int)+1))] ([some ⟨1,ta⟩]++(rows13 sl++[some ⟨1,(subL ar ((i)*7) (7))⟩])))∧
 (sameU [.agg (rowA sl (fkA 1 (subL ar ((i)*7) (7)) (6))),.agg (rowA sl (fkA 1 ta ((i)*7+7)))]=false→
 Q .ret [.ptr (.rw 0) (0),.bool (false),.agg ar,.int .i64 (((i:Nat):Int))] ([some ⟨1,ta⟩]++(rows13 sl++[some ⟨1,(subL ar ((i)*7) (7))⟩]))))))∧
 (((getI (subL (subL ar ((i)*7) (7)) (0) (6)) (5):Int)==getI (subL ta ((i)*7+1) (6)) (5))=false→
 Q .ret [.ptr (.rw 0) (0),.bool (false),.agg ar,.int .i64 (((i:Nat):Int))] ([some ⟨1,ta⟩]++(rows13 sl++[some ⟨1,(subL ar ((i)*7) (7))⟩]))))))∧
 (((getI (subL (subL ar ((i)*7) (7)) (0) (6)) (3):Int)==getI (subL ta ((i)*7+1) (6)) (3))=false→
 Q .ret [.ptr (.rw 0) (0),.bool (false),.agg ar,.int .i64 (((i:Nat):Int))] ([some ⟨1,ta⟩]++(rows13 sl++[some ⟨1,(subL ar ((i)*7) (7))⟩]))))∧
 (((getI (subL (subL ar ((i)*7) (7)) (0) (6)) (2):Int)==getI (subL ta ((i)*7+1) (6)) (2))=false→
 Q .ret [.ptr (.rw 0) (0),.bool (false),.agg ar,.int .i64 (((i:Nat):Int))] ([some ⟨1,ta⟩]++(rows13 sl++[some ⟨1,(subL ar ((i)*7) (7))⟩]))))∧
 (((getI (subL (subL ar ((i)*7) (7)) (0) (6)) (1):Int)==getI (subL ta ((i)*7+1) (6)) (1))=false→
 Q .ret [.ptr (.rw 0) (0),.bool (false),.agg ar,.int .i64 (((i:Nat):Int))] ([some ⟨1,ta⟩]++(rows13 sl++[some ⟨1,(subL ar ((i)*7) (7))⟩]))))∧
 (((getI (subL (subL ar ((i)*7) (7)) (0) (6)) (0):Int)==getI (subL ta ((i)*7+1) (6)) (0))=false→
 Q .ret [.ptr (.rw 0) (0),.bool (false),.agg ar,.int .i64 (((i:Nat):Int))] ([some ⟨1,ta⟩]++(rows13 sl++[some ⟨1,(subL ar ((i)*7) (7))⟩]))))∧
 (decide ((((i:Nat):Int):Int)<13)=false→
 Q (.exit 0) [.ptr (.rw 0) (0),.bool (false),.agg ar,.int .i64 (((i:Nat):Int))] ([some ⟨1,ta⟩]++rows13 sl))):=by kernel_rfl
theorem sm_c (G:Nat→List AV) (rl:List AV→Bool) (ta sl:List AV) (fb:Bool) (Q:Ex→List AV→Hp→Prop) (R:AV→Hp→Prop):vT G Q R (dcall (Dc Try.prog [36] [] [DLat 2370 (rl) 0 52 [1,4,23,24] (.tst (.var 9 fb) (.one (.exit 0) [.undef,.undef,.undef,.undef] (HSd (.var 1 ta) (.var 2 sl))) (.one .ret [.undef,.bool (.lit false),.undef,.undef] (HSd (.var 1 ta) (.var 2 sl))))] 28) 300 20 Try.f15 [.ptr (.rw 0) (.lit 0),.ptr (.rw 14) (.lit 0)] (HSd (.var 1 ta) (.var 2 sl)) 28)=(
  isB ta (0)=true∧
 (getB ta (0)=true→
 isB (rowA sl (13)) (0)=true∧
 (getB (rowA sl (13)) (0)=true→
 leB (92) (List.length ta)=true∧
 (rl) [.agg ([.ptr (.rw 14) (0),.bool (false),.agg (subL ta (1) (91)),.int .i64 (0)]:List AV),.agg ((tp3 [.tup [.int .i64 (1),.agg ta]] sl [.tup [.int .i64 (1),.agg (rowA sl (13))],.tup [.int .i64 (1),.agg (rowA sl (14))],.tup [.int .i64 (1),.agg (rowA sl (15))],.tup [.int .i64 (1),.agg (rowA sl (16))],.tup [.int .i64 (1),.agg (rowA sl (17))],.tup [.int .i64 (1),.agg (rowA sl (18))],.tup [.int .i64 (1),.agg (rowA sl (19))],.tup [.int .i64 (1),.agg (rowA sl (20))],.tup [.int .i64 (1),.agg (rowA sl (21))],.tup [.int .i64 (1),.agg (rowA sl (22))],.tup [.int .i64 (1),.agg (rowA sl (23))],.tup [.int .i64 (1),.agg (rowA sl (24))],.tup [.int .i64 (1),.agg (rowA sl (25))],.tup [.int .i64 (1),.agg (rowA sl (26))]]):List AV)]=true∧
 (fb=true→
 R (.bool (true)) ([some ⟨1,ta⟩]++(rows13 sl++([some ⟨1,(rowA sl (13))⟩,some ⟨1,(rowA sl (14))⟩,some ⟨1,(rowA sl (15))⟩,some ⟨1,(rowA sl (16))⟩,some ⟨1,(rowA sl (17))⟩,some ⟨1,(rowA sl (18))⟩,some ⟨1,(rowA sl (19))⟩,some ⟨1,(rowA sl (20))⟩,some ⟨1,(rowA sl (21))⟩,some ⟨1,(rowA sl (22))⟩,some ⟨1,(rowA sl (23))⟩,some ⟨1,(rowA sl (24))⟩,some ⟨1,(rowA sl (25))⟩,some ⟨1,(rowA sl (26))⟩]))))∧
 (fb=false→
 R (.bool (false)) ([some ⟨1,ta⟩]++(rows13 sl++([some ⟨1,(rowA sl (13))⟩,some ⟨1,(rowA sl (14))⟩,some ⟨1,(rowA sl (15))⟩,some ⟨1,(rowA sl (16))⟩,some ⟨1,(rowA sl (17))⟩,some ⟨1,(rowA sl (18))⟩,some ⟨1,(rowA sl (19))⟩,some ⟨1,(rowA sl (20))⟩,some ⟨1,(rowA sl (21))⟩,some ⟨1,(rowA sl (22))⟩,some ⟨1,(rowA sl (23))⟩,some ⟨1,(rowA sl (24))⟩,some ⟨1,(rowA sl (25))⟩,some ⟨1,(rowA sl (26))⟩])))))∧
 (getB (rowA sl (13)) (0)=false→
 isB ta (0)=true∧
 isB (rowA sl (13)) (0)=true∧
 R (.bool (((getB ta (0):Bool)==getB (rowA sl (13)) (0)))) ([some ⟨1,ta⟩]++(rows13 sl++([some ⟨1,(rowA sl (13))⟩,some ⟨1,(rowA sl (14))⟩,some ⟨1,(rowA sl (15))⟩,some ⟨1,(rowA sl (16))⟩,some ⟨1,(rowA sl (17))⟩,some ⟨1,(rowA sl (18))⟩,some ⟨1,(rowA sl (19))⟩,some ⟨1,(rowA sl (20))⟩,some ⟨1,(rowA sl (21))⟩,some ⟨1,(rowA sl (22))⟩,some ⟨1,(rowA sl (23))⟩,some ⟨1,(rowA sl (24))⟩,some ⟨1,(rowA sl (25))⟩,some ⟨1,(rowA sl (26))⟩])))))∧
 (getB ta (0)=false→
 isB ta (0)=true∧
 isB (rowA sl (13)) (0)=true∧
 R (.bool (((getB ta (0):Bool)==getB (rowA sl (13)) (0)))) ([some ⟨1,ta⟩]++(rows13 sl++([some ⟨1,(rowA sl (13))⟩,some ⟨1,(rowA sl (14))⟩,some ⟨1,(rowA sl (15))⟩,some ⟨1,(rowA sl (16))⟩,some ⟨1,(rowA sl (17))⟩,some ⟨1,(rowA sl (18))⟩,some ⟨1,(rowA sl (19))⟩,some ⟨1,(rowA sl (20))⟩,some ⟨1,(rowA sl (21))⟩,some ⟨1,(rowA sl (22))⟩,some ⟨1,(rowA sl (23))⟩,some ⟨1,(rowA sl (24))⟩,some ⟨1,(rowA sl (25))⟩,some ⟨1,(rowA sl (26))⟩]))))):=by kernel_rfl
end Go.Am
