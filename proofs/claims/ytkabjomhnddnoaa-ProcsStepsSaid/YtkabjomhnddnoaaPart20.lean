/-
  Processes: the program's Same: trees. Processes: two processes of two tables compared: the tree, discharged.
-/
import Derived.Test.YtkabjomhnddnoaaPart19
import Derived.Test.YtkabjomhnddnoaaPart17
namespace Go.Am
open Go.Proofs Crc
set_option maxRecDepth 100000
def Ja (T1 S:EL):DHp:=[some ⟨1,T1⟩,some ⟨1,.row S (.lit 0)⟩,some ⟨1,.row S (.lit 1)⟩,some ⟨1,.row S (.lit 2)⟩,some ⟨1,.row S (.lit 3)⟩,some ⟨1,.row S (.lit 4)⟩,some ⟨1,.row S (.lit 5)⟩,some ⟨1,.row S (.lit 6)⟩,some ⟨1,.row S (.lit 7)⟩,some ⟨1,.row S (.lit 8)⟩,some ⟨1,.row S (.lit 9)⟩,some ⟨1,.row S (.lit 10)⟩,some ⟨1,.row S (.lit 11)⟩,some ⟨1,.row S (.lit 12)⟩,some ⟨1,.row S (.lit 13)⟩,some ⟨1,.row S (.lit 14)⟩,some ⟨1,.row S (.lit 15)⟩,some ⟨1,.row S (.lit 16)⟩,some ⟨1,.row S (.lit 17)⟩,some ⟨1,.row S (.lit 18)⟩,some ⟨1,.row S (.lit 19)⟩,some ⟨1,.row S (.lit 20)⟩,some ⟨1,.row S (.lit 21)⟩,some ⟨1,.row S (.lit 22)⟩,some ⟨1,.row S (.lit 23)⟩,some ⟨1,.row S (.lit 24)⟩,some ⟨1,.row S (.lit 25)⟩,some ⟨1,.row S (.lit 26)⟩]
def Ak (ar:List AV) (i:Nat):List AV:=[.ptr (.rw 14) (0),.bool (false),.agg ar,.int .i64 (((i:Nat):Int))]
theorem sm_b (G:Nat→List AV) (ta sl ar:List AV) (i:Nat) (Q:Ex→List AV→Hp→Prop) (R:AV→Hp→Prop):vT G Q R (J6 (Df Try.prog [(48,1,27)] [36] [(24,cM N0)] [] 0) 400 20 28 (loopN Try.f15 0) 52 [1,4,23,24] [.ptr (.rw 14) (.lit 0),.bool (.lit false),.agg (.var 25 ar),.int .i64 (.ofN (.var 8 i))] (Ja (.var 1 ta) (.var 2 sl)))=(
  (decide ((((i:Nat):Int):Int)<13)=true→decide ((0:Int)≤((i:Nat):Int))=true∧decide ((((i:Nat):Int):Int)<13)=true∧leB ((i)*7+7) (List.length ar)=true∧cellsB (subL ar ((i)*7) (7))=true∧Nat.beq (List.length (subL ar ((i)*7) (7))) (7)=true∧leB (6) (List.length (subL ar ((i)*7) (7)))=true∧decide ((0:Int)≤((i:Nat):Int))=true∧decide ((((i:Nat):Int):Int)<13)=true∧leB ((i)*7+7) (List.length (A1 sl (13)))=true∧isI .i64 (subL (subL ar ((i)*7) (7)) (0) (6)) (0)=true∧isI .i64 (subL (A1 sl (13)) ((i)*7+1) (6)) (0)=true∧isI .i64 (subL (subL ar ((i)*7) (7)) (0) (6)) (1)=true∧isI .i64 (subL (A1 sl (13)) ((i)*7+1) (6)) (1)=true∧isI .i64 (subL (subL ar ((i)*7) (7)) (0) (6)) (2)=true∧isI .i64 (subL (A1 sl (13)) ((i)*7+1) (6)) (2)=true∧isI .i64 (subL (subL ar ((i)*7) (7)) (0) (6)) (3)=true∧isI .i64 (subL (A1 sl (13)) ((i)*7+1) (6)) (3)=true∧isB (subL (subL ar ((i)*7) (7)) (0) (6)) (4)=true∧isB (subL (A1 sl (13)) ((i)*7+1) (6)) (4)=true∧isI .i64 (subL (subL ar ((i)*7) (7)) (0) (6)) (5)=true∧isI .i64 (subL (A1 sl (13)) ((i)*7+1) (6)) (5)=true∧(((A0 (subL (subL ar ((i)*7) (7)) (0) (6)) (0):Int)==A0 (subL (A1 sl (13)) ((i)*7+1) (6)) (0))=true→(((A0 (subL (subL ar ((i)*7) (7)) (0) (6)) (1):Int)==A0 (subL (A1 sl (13)) ((i)*7+1) (6)) (1))=true→(((A0 (subL (subL ar ((i)*7) (7)) (0) (6)) (2):Int)==A0 (subL (A1 sl (13)) ((i)*7+1) (6)) (2))=true→(((A0 (subL (subL ar ((i)*7) (7)) (0) (6)) (3):Int)==A0 (subL (A1 sl (13)) ((i)*7+1) (6)) (3))=true→(A5 (subL (subL ar ((i)*7) (7)) (0) (6)) (4)=true→(A5 (subL (A1 sl (13)) ((i)*7+1) (6)) (4)=true→(((A0 (subL (subL ar ((i)*7) (7)) (0) (6)) (5):Int)==A0 (subL (A1 sl (13)) ((i)*7+1) (6)) (5))=true→(B4 (subL ar ((i)*7) (7)) (6)=true→decide ((0:Int)≤((i:Nat):Int))=true∧decide ((((i:Nat):Int):Int)<13)=true∧
 (B4 (A1 sl (13)) ((i)*7+7)=true→Q .normal [.ptr (.rw 14) (0),.bool (false),.agg ar,.int .i64 (IntKind.wrap .i64 (((i:Nat):Int)+1))] ([some ⟨1,ta⟩]++(A2 sl++([some ⟨1,(A1 sl (13))⟩,some ⟨1,(A1 sl (14))⟩,some ⟨1,(A1 sl (15))⟩,some ⟨1,(A1 sl (16))⟩,some ⟨1,(A1 sl (17))⟩,some ⟨1,(A1 sl (18))⟩,some ⟨1,(A1 sl (19))⟩,some ⟨1,(A1 sl (20))⟩,some ⟨1,(A1 sl (21))⟩,some ⟨1,(A1 sl (22))⟩,some ⟨1,(A1 sl (23))⟩,some ⟨1,(A1 sl (24))⟩,some ⟨1,(A1 sl (25))⟩,some ⟨1,(A1 sl (26))⟩,some ⟨1,(subL ar ((i)*7) (7))⟩]))))∧(B4 (A1 sl (13)) ((i)*7+7)=false→J4 1 27 (A1 sl (13)) ((i)*7+7)=true∧Nat.beq (K4 (A1 sl (13)) ((i)*7+7)) (0)=true∧leB (A4 1 (A1 sl (13)) ((i)*7+7)+1) (27)=true∧rowsA sl (rp 27 sl)=true∧leB (A4 1 (A1 sl (13)) ((i)*7+7)+1) (List.length sl)=true∧okU [.agg (A1 sl (A4 1 (A1 sl (13)) ((i)*7+7)))]=true∧Q .ret (Ak ar i) ([some ⟨1,ta⟩]++(A2 sl++([some ⟨1,(A1 sl (13))⟩,some ⟨1,(A1 sl (14))⟩,some ⟨1,(A1 sl (15))⟩,some ⟨1,(A1 sl (16))⟩,some ⟨1,(A1 sl (17))⟩,some ⟨1,(A1 sl (18))⟩,some ⟨1,(A1 sl (19))⟩,some ⟨1,(A1 sl (20))⟩,some ⟨1,(A1 sl (21))⟩,some ⟨1,(A1 sl (22))⟩,some ⟨1,(A1 sl (23))⟩,some ⟨1,(A1 sl (24))⟩,some ⟨1,(A1 sl (25))⟩,some ⟨1,(A1 sl (26))⟩,some ⟨1,(subL ar ((i)*7) (7))⟩])))))∧(B4 (subL ar ((i)*7) (7)) (6)=false→J4 1 27 (subL ar ((i)*7) (7)) (6)=true∧decide ((0:Int)≤((i:Nat):Int))=true∧decide ((((i:Nat):Int):Int)<13)=true∧(B4 (A1 sl (13)) ((i)*7+7)=true→Nat.beq (K4 (subL ar ((i)*7) (7)) (6)) (0)=true∧leB (A4 1 (subL ar ((i)*7) (7)) (6)+1) (27)=true∧rowsA sl (rp 27 sl)=true∧leB (A4 1 (subL ar ((i)*7) (7)) (6)+1) (List.length sl)=true∧okU [.agg (A1 sl (A4 1 (subL ar ((i)*7) (7)) (6)))]=true∧
 Q .ret (Ak ar i) ([some ⟨1,ta⟩]++(A2 sl++([some ⟨1,(A1 sl (13))⟩,some ⟨1,(A1 sl (14))⟩,some ⟨1,(A1 sl (15))⟩,some ⟨1,(A1 sl (16))⟩,some ⟨1,(A1 sl (17))⟩,some ⟨1,(A1 sl (18))⟩,some ⟨1,(A1 sl (19))⟩,some ⟨1,(A1 sl (20))⟩,some ⟨1,(A1 sl (21))⟩,some ⟨1,(A1 sl (22))⟩,some ⟨1,(A1 sl (23))⟩,some ⟨1,(A1 sl (24))⟩,some ⟨1,(A1 sl (25))⟩,some ⟨1,(A1 sl (26))⟩,some ⟨1,(subL ar ((i)*7) (7))⟩]))))∧(B4 (A1 sl (13)) ((i)*7+7)=false→J4 1 27 (A1 sl (13)) ((i)*7+7)=true∧Nat.beq (K4 (subL ar ((i)*7) (7)) (6)) (0)=true∧leB (A4 1 (subL ar ((i)*7) (7)) (6)+1) (27)=true∧rowsA sl (rp 27 sl)=true∧leB (A4 1 (subL ar ((i)*7) (7)) (6)+1) (List.length sl)=true∧okU [.agg (A1 sl (A4 1 (subL ar ((i)*7) (7)) (6)))]=true∧Nat.beq (K4 (A1 sl (13)) ((i)*7+7)) (0)=true∧leB (A4 1 (A1 sl (13)) ((i)*7+7)+1) (27)=true∧rowsA sl (rp 27 sl)=true∧leB (A4 1 (A1 sl (13)) ((i)*7+7)+1) (List.length sl)=true∧okU [.agg (A1 sl (A4 1 (A1 sl (13)) ((i)*7+7)))]=true∧(Ei [.agg (A1 sl (A4 1 (subL ar ((i)*7) (7)) (6))),.agg (A1 sl (A4 1 (A1 sl (13)) ((i)*7+7)))]=true→Q .normal [.ptr (.rw 14) (0),.bool (false),.agg ar,.int .i64 (IntKind.wrap .i64 (((i:Nat):Int)+1))] ([some ⟨1,ta⟩]++(A2 sl++([some ⟨1,(A1 sl (13))⟩,some ⟨1,(A1 sl (14))⟩,some ⟨1,(A1 sl (15))⟩,some ⟨1,(A1 sl (16))⟩,some ⟨1,(A1 sl (17))⟩,some ⟨1,(A1 sl (18))⟩,some ⟨1,(A1 sl (19))⟩,some ⟨1,(A1 sl (20))⟩,some ⟨1,(A1 sl (21))⟩,some ⟨1,(A1 sl (22))⟩,some ⟨1,(A1 sl (23))⟩,some ⟨1,(A1 sl (24))⟩,some ⟨1,(A1 sl (25))⟩,some ⟨1,(A1 sl (26))⟩,some ⟨1,(subL ar ((i)*7) (7))⟩]))))∧(Ei [.agg (A1 sl (A4 1 (subL ar ((i)*7) (7)) (6))),.agg (A1 sl (A4 1 (A1 sl (13)) ((i)*7+7)))]=false→
 Q .ret (Ak ar i) ([some ⟨1,ta⟩]++(A2 sl++([some ⟨1,(A1 sl (13))⟩,some ⟨1,(A1 sl (14))⟩,some ⟨1,(A1 sl (15))⟩,some ⟨1,(A1 sl (16))⟩,some ⟨1,(A1 sl (17))⟩,some ⟨1,(A1 sl (18))⟩,some ⟨1,(A1 sl (19))⟩,some ⟨1,(A1 sl (20))⟩,some ⟨1,(A1 sl (21))⟩,some ⟨1,(A1 sl (22))⟩,some ⟨1,(A1 sl (23))⟩,some ⟨1,(A1 sl (24))⟩,some ⟨1,(A1 sl (25))⟩,some ⟨1,(A1 sl (26))⟩,some ⟨1,(subL ar ((i)*7) (7))⟩])))))))∧(((A0 (subL (subL ar ((i)*7) (7)) (0) (6)) (5):Int)==A0 (subL (A1 sl (13)) ((i)*7+1) (6)) (5))=false→Q .ret (Ak ar i) ([some ⟨1,ta⟩]++(A2 sl++([some ⟨1,(A1 sl (13))⟩,some ⟨1,(A1 sl (14))⟩,some ⟨1,(A1 sl (15))⟩,some ⟨1,(A1 sl (16))⟩,some ⟨1,(A1 sl (17))⟩,some ⟨1,(A1 sl (18))⟩,some ⟨1,(A1 sl (19))⟩,some ⟨1,(A1 sl (20))⟩,some ⟨1,(A1 sl (21))⟩,some ⟨1,(A1 sl (22))⟩,some ⟨1,(A1 sl (23))⟩,some ⟨1,(A1 sl (24))⟩,some ⟨1,(A1 sl (25))⟩,some ⟨1,(A1 sl (26))⟩,some ⟨1,(subL ar ((i)*7) (7))⟩])))))∧(A5 (subL (A1 sl (13)) ((i)*7+1) (6)) (4)=false→Q .ret (Ak ar i) ([some ⟨1,ta⟩]++(A2 sl++([some ⟨1,(A1 sl (13))⟩,some ⟨1,(A1 sl (14))⟩,some ⟨1,(A1 sl (15))⟩,some ⟨1,(A1 sl (16))⟩,some ⟨1,(A1 sl (17))⟩,some ⟨1,(A1 sl (18))⟩,some ⟨1,(A1 sl (19))⟩,some ⟨1,(A1 sl (20))⟩,some ⟨1,(A1 sl (21))⟩,some ⟨1,(A1 sl (22))⟩,some ⟨1,(A1 sl (23))⟩,some ⟨1,(A1 sl (24))⟩,some ⟨1,(A1 sl (25))⟩,some ⟨1,(A1 sl (26))⟩,some ⟨1,(subL ar ((i)*7) (7))⟩])))))∧(A5 (subL (subL ar ((i)*7) (7)) (0) (6)) (4)=false→(A5 (subL (A1 sl (13)) ((i)*7+1) (6)) (4)=true→
 Q .ret (Ak ar i) ([some ⟨1,ta⟩]++(A2 sl++([some ⟨1,(A1 sl (13))⟩,some ⟨1,(A1 sl (14))⟩,some ⟨1,(A1 sl (15))⟩,some ⟨1,(A1 sl (16))⟩,some ⟨1,(A1 sl (17))⟩,some ⟨1,(A1 sl (18))⟩,some ⟨1,(A1 sl (19))⟩,some ⟨1,(A1 sl (20))⟩,some ⟨1,(A1 sl (21))⟩,some ⟨1,(A1 sl (22))⟩,some ⟨1,(A1 sl (23))⟩,some ⟨1,(A1 sl (24))⟩,some ⟨1,(A1 sl (25))⟩,some ⟨1,(A1 sl (26))⟩,some ⟨1,(subL ar ((i)*7) (7))⟩]))))∧(A5 (subL (A1 sl (13)) ((i)*7+1) (6)) (4)=false→(((A0 (subL (subL ar ((i)*7) (7)) (0) (6)) (5):Int)==A0 (subL (A1 sl (13)) ((i)*7+1) (6)) (5))=true→(B4 (subL ar ((i)*7) (7)) (6)=true→decide ((0:Int)≤((i:Nat):Int))=true∧decide ((((i:Nat):Int):Int)<13)=true∧(B4 (A1 sl (13)) ((i)*7+7)=true→Q .normal [.ptr (.rw 14) (0),.bool (false),.agg ar,.int .i64 (IntKind.wrap .i64 (((i:Nat):Int)+1))] ([some ⟨1,ta⟩]++(A2 sl++([some ⟨1,(A1 sl (13))⟩,some ⟨1,(A1 sl (14))⟩,some ⟨1,(A1 sl (15))⟩,some ⟨1,(A1 sl (16))⟩,some ⟨1,(A1 sl (17))⟩,some ⟨1,(A1 sl (18))⟩,some ⟨1,(A1 sl (19))⟩,some ⟨1,(A1 sl (20))⟩,some ⟨1,(A1 sl (21))⟩,some ⟨1,(A1 sl (22))⟩,some ⟨1,(A1 sl (23))⟩,some ⟨1,(A1 sl (24))⟩,some ⟨1,(A1 sl (25))⟩,some ⟨1,(A1 sl (26))⟩,some ⟨1,(subL ar ((i)*7) (7))⟩]))))∧(B4 (A1 sl (13)) ((i)*7+7)=false→J4 1 27 (A1 sl (13)) ((i)*7+7)=true∧Nat.beq (K4 (A1 sl (13)) ((i)*7+7)) (0)=true∧leB (A4 1 (A1 sl (13)) ((i)*7+7)+1) (27)=true∧rowsA sl (rp 27 sl)=true∧leB (A4 1 (A1 sl (13)) ((i)*7+7)+1) (List.length sl)=true∧okU [.agg (A1 sl (A4 1 (A1 sl (13)) ((i)*7+7)))]=true∧
 Q .ret (Ak ar i) ([some ⟨1,ta⟩]++(A2 sl++([some ⟨1,(A1 sl (13))⟩,some ⟨1,(A1 sl (14))⟩,some ⟨1,(A1 sl (15))⟩,some ⟨1,(A1 sl (16))⟩,some ⟨1,(A1 sl (17))⟩,some ⟨1,(A1 sl (18))⟩,some ⟨1,(A1 sl (19))⟩,some ⟨1,(A1 sl (20))⟩,some ⟨1,(A1 sl (21))⟩,some ⟨1,(A1 sl (22))⟩,some ⟨1,(A1 sl (23))⟩,some ⟨1,(A1 sl (24))⟩,some ⟨1,(A1 sl (25))⟩,some ⟨1,(A1 sl (26))⟩,some ⟨1,(subL ar ((i)*7) (7))⟩])))))∧(B4 (subL ar ((i)*7) (7)) (6)=false→J4 1 27 (subL ar ((i)*7) (7)) (6)=true∧decide ((0:Int)≤((i:Nat):Int))=true∧decide ((((i:Nat):Int):Int)<13)=true∧(B4 (A1 sl (13)) ((i)*7+7)=true→Nat.beq (K4 (subL ar ((i)*7) (7)) (6)) (0)=true∧leB (A4 1 (subL ar ((i)*7) (7)) (6)+1) (27)=true∧rowsA sl (rp 27 sl)=true∧leB (A4 1 (subL ar ((i)*7) (7)) (6)+1) (List.length sl)=true∧okU [.agg (A1 sl (A4 1 (subL ar ((i)*7) (7)) (6)))]=true∧Q .ret (Ak ar i) ([some ⟨1,ta⟩]++(A2 sl++([some ⟨1,(A1 sl (13))⟩,some ⟨1,(A1 sl (14))⟩,some ⟨1,(A1 sl (15))⟩,some ⟨1,(A1 sl (16))⟩,some ⟨1,(A1 sl (17))⟩,some ⟨1,(A1 sl (18))⟩,some ⟨1,(A1 sl (19))⟩,some ⟨1,(A1 sl (20))⟩,some ⟨1,(A1 sl (21))⟩,some ⟨1,(A1 sl (22))⟩,some ⟨1,(A1 sl (23))⟩,some ⟨1,(A1 sl (24))⟩,some ⟨1,(A1 sl (25))⟩,some ⟨1,(A1 sl (26))⟩,some ⟨1,(subL ar ((i)*7) (7))⟩]))))∧(B4 (A1 sl (13)) ((i)*7+7)=false→J4 1 27 (A1 sl (13)) ((i)*7+7)=true∧Nat.beq (K4 (subL ar ((i)*7) (7)) (6)) (0)=true∧leB (A4 1 (subL ar ((i)*7) (7)) (6)+1) (27)=true∧rowsA sl (rp 27 sl)=true∧leB (A4 1 (subL ar ((i)*7) (7)) (6)+1) (List.length sl)=true∧okU [.agg (A1 sl (A4 1 (subL ar ((i)*7) (7)) (6)))]=true∧Nat.beq (K4 (A1 sl (13)) ((i)*7+7)) (0)=true∧leB (A4 1 (A1 sl (13)) ((i)*7+7)+1) (27)=true∧rowsA sl (rp 27 sl)=true∧leB (A4 1 (A1 sl (13)) ((i)*7+7)+1) (List.length sl)=true∧
 okU [.agg (A1 sl (A4 1 (A1 sl (13)) ((i)*7+7)))]=true∧(Ei [.agg (A1 sl (A4 1 (subL ar ((i)*7) (7)) (6))),.agg (A1 sl (A4 1 (A1 sl (13)) ((i)*7+7)))]=true→Q .normal [.ptr (.rw 14) (0),.bool (false),.agg ar,.int .i64 (IntKind.wrap .i64 (((i:Nat):Int)+1))] ([some ⟨1,ta⟩]++(A2 sl++([some ⟨1,(A1 sl (13))⟩,some ⟨1,(A1 sl (14))⟩,some ⟨1,(A1 sl (15))⟩,some ⟨1,(A1 sl (16))⟩,some ⟨1,(A1 sl (17))⟩,some ⟨1,(A1 sl (18))⟩,some ⟨1,(A1 sl (19))⟩,some ⟨1,(A1 sl (20))⟩,some ⟨1,(A1 sl (21))⟩,some ⟨1,(A1 sl (22))⟩,some ⟨1,(A1 sl (23))⟩,some ⟨1,(A1 sl (24))⟩,some ⟨1,(A1 sl (25))⟩,some ⟨1,(A1 sl (26))⟩,some ⟨1,(subL ar ((i)*7) (7))⟩]))))∧(Ei [.agg (A1 sl (A4 1 (subL ar ((i)*7) (7)) (6))),.agg (A1 sl (A4 1 (A1 sl (13)) ((i)*7+7)))]=false→Q .ret (Ak ar i) ([some ⟨1,ta⟩]++(A2 sl++([some ⟨1,(A1 sl (13))⟩,some ⟨1,(A1 sl (14))⟩,some ⟨1,(A1 sl (15))⟩,some ⟨1,(A1 sl (16))⟩,some ⟨1,(A1 sl (17))⟩,some ⟨1,(A1 sl (18))⟩,some ⟨1,(A1 sl (19))⟩,some ⟨1,(A1 sl (20))⟩,some ⟨1,(A1 sl (21))⟩,some ⟨1,(A1 sl (22))⟩,some ⟨1,(A1 sl (23))⟩,some ⟨1,(A1 sl (24))⟩,some ⟨1,(A1 sl (25))⟩,some ⟨1,(A1 sl (26))⟩,some ⟨1,(subL ar ((i)*7) (7))⟩])))))))∧(((A0 (subL (subL ar ((i)*7) (7)) (0) (6)) (5):Int)==A0 (subL (A1 sl (13)) ((i)*7+1) (6)) (5))=false→Q .ret (Ak ar i) ([some ⟨1,ta⟩]++(A2 sl++([some ⟨1,(A1 sl (13))⟩,some ⟨1,(A1 sl (14))⟩,some ⟨1,(A1 sl (15))⟩,some ⟨1,(A1 sl (16))⟩,some ⟨1,(A1 sl (17))⟩,some ⟨1,(A1 sl (18))⟩,some ⟨1,(A1 sl (19))⟩,some ⟨1,(A1 sl (20))⟩,some ⟨1,(A1 sl (21))⟩,some ⟨1,(A1 sl (22))⟩,some ⟨1,(A1 sl (23))⟩,some ⟨1,(A1 sl (24))⟩,some ⟨1,(A1 sl (25))⟩,some ⟨1,(A1 sl (26))⟩,some ⟨1,(subL ar ((i)*7) (7))⟩])))))))∧
 (((A0 (subL (subL ar ((i)*7) (7)) (0) (6)) (3):Int)==A0 (subL (A1 sl (13)) ((i)*7+1) (6)) (3))=false→Q .ret (Ak ar i) ([some ⟨1,ta⟩]++(A2 sl++([some ⟨1,(A1 sl (13))⟩,some ⟨1,(A1 sl (14))⟩,some ⟨1,(A1 sl (15))⟩,some ⟨1,(A1 sl (16))⟩,some ⟨1,(A1 sl (17))⟩,some ⟨1,(A1 sl (18))⟩,some ⟨1,(A1 sl (19))⟩,some ⟨1,(A1 sl (20))⟩,some ⟨1,(A1 sl (21))⟩,some ⟨1,(A1 sl (22))⟩,some ⟨1,(A1 sl (23))⟩,some ⟨1,(A1 sl (24))⟩,some ⟨1,(A1 sl (25))⟩,some ⟨1,(A1 sl (26))⟩,some ⟨1,(subL ar ((i)*7) (7))⟩])))))∧(((A0 (subL (subL ar ((i)*7) (7)) (0) (6)) (2):Int)==A0 (subL (A1 sl (13)) ((i)*7+1) (6)) (2))=false→Q .ret (Ak ar i) ([some ⟨1,ta⟩]++(A2 sl++([some ⟨1,(A1 sl (13))⟩,some ⟨1,(A1 sl (14))⟩,some ⟨1,(A1 sl (15))⟩,some ⟨1,(A1 sl (16))⟩,some ⟨1,(A1 sl (17))⟩,some ⟨1,(A1 sl (18))⟩,some ⟨1,(A1 sl (19))⟩,some ⟨1,(A1 sl (20))⟩,some ⟨1,(A1 sl (21))⟩,some ⟨1,(A1 sl (22))⟩,some ⟨1,(A1 sl (23))⟩,some ⟨1,(A1 sl (24))⟩,some ⟨1,(A1 sl (25))⟩,some ⟨1,(A1 sl (26))⟩,some ⟨1,(subL ar ((i)*7) (7))⟩])))))∧(((A0 (subL (subL ar ((i)*7) (7)) (0) (6)) (1):Int)==A0 (subL (A1 sl (13)) ((i)*7+1) (6)) (1))=false→Q .ret (Ak ar i) ([some ⟨1,ta⟩]++(A2 sl++([some ⟨1,(A1 sl (13))⟩,some ⟨1,(A1 sl (14))⟩,some ⟨1,(A1 sl (15))⟩,some ⟨1,(A1 sl (16))⟩,some ⟨1,(A1 sl (17))⟩,some ⟨1,(A1 sl (18))⟩,some ⟨1,(A1 sl (19))⟩,some ⟨1,(A1 sl (20))⟩,some ⟨1,(A1 sl (21))⟩,some ⟨1,(A1 sl (22))⟩,some ⟨1,(A1 sl (23))⟩,some ⟨1,(A1 sl (24))⟩,some ⟨1,(A1 sl (25))⟩,some ⟨1,(A1 sl (26))⟩,some ⟨1,(subL ar ((i)*7) (7))⟩])))))∧(((A0 (subL (subL ar ((i)*7) (7)) (0) (6)) (0):Int)==A0 (subL (A1 sl (13)) ((i)*7+1) (6)) (0))=false→
 Q .ret (Ak ar i) ([some ⟨1,ta⟩]++(A2 sl++([some ⟨1,(A1 sl (13))⟩,some ⟨1,(A1 sl (14))⟩,some ⟨1,(A1 sl (15))⟩,some ⟨1,(A1 sl (16))⟩,some ⟨1,(A1 sl (17))⟩,some ⟨1,(A1 sl (18))⟩,some ⟨1,(A1 sl (19))⟩,some ⟨1,(A1 sl (20))⟩,some ⟨1,(A1 sl (21))⟩,some ⟨1,(A1 sl (22))⟩,some ⟨1,(A1 sl (23))⟩,some ⟨1,(A1 sl (24))⟩,some ⟨1,(A1 sl (25))⟩,some ⟨1,(A1 sl (26))⟩,some ⟨1,(subL ar ((i)*7) (7))⟩])))))∧(decide ((((i:Nat):Int):Int)<13)=false→Q (.exit 0) (Ak ar i) ([some ⟨1,ta⟩]++(A2 sl++([some ⟨1,(A1 sl (13))⟩,some ⟨1,(A1 sl (14))⟩,some ⟨1,(A1 sl (15))⟩,some ⟨1,(A1 sl (16))⟩,some ⟨1,(A1 sl (17))⟩,some ⟨1,(A1 sl (18))⟩,some ⟨1,(A1 sl (19))⟩,some ⟨1,(A1 sl (20))⟩,some ⟨1,(A1 sl (21))⟩,some ⟨1,(A1 sl (22))⟩,some ⟨1,(A1 sl (23))⟩,some ⟨1,(A1 sl (24))⟩,some ⟨1,(A1 sl (25))⟩,some ⟨1,(A1 sl (26))⟩]))))):=by kernel_rfl
def cS (sl:List AV):Hp:=[some ⟨1,(A1 sl (13))⟩,some ⟨1,(A1 sl (14))⟩,some ⟨1,(A1 sl (15))⟩,some ⟨1,(A1 sl (16))⟩,some ⟨1,(A1 sl (17))⟩,some ⟨1,(A1 sl (18))⟩,some ⟨1,(A1 sl (19))⟩,some ⟨1,(A1 sl (20))⟩,some ⟨1,(A1 sl (21))⟩,some ⟨1,(A1 sl (22))⟩,some ⟨1,(A1 sl (23))⟩,some ⟨1,(A1 sl (24))⟩,some ⟨1,(A1 sl (25))⟩,some ⟨1,(A1 sl (26))⟩]
theorem sm_c (G:Nat→List AV) (rl:List AV→Bool) (ta sl:List AV) (fb:Bool) (Q:Ex→List AV→Hp→Prop) (R:AV→Hp→Prop):vT G Q R (D0 (Dc Try.prog [36] [] [E5 2370 (rl) 0 52 [1,4,23,24] (.tst (.var 9 fb) (.one (.exit 0) [.undef,.undef,.undef,.undef] (Ja (.var 1 ta) (.var 2 sl))) (.one .ret [.undef,.bool (.lit false),.undef,.undef] (Ja (.var 1 ta) (.var 2 sl))))] 28) 300 20 Try.f15 [.ptr (.rw 0) (.lit 0),.ptr (.rw 14) (.lit 0)] (Ja (.var 1 ta) (.var 2 sl)) 28)=(
  isB ta (0)=true∧(A5 ta (0)=true→isB (A1 sl (13)) (0)=true∧(A5 (A1 sl (13)) (0)=true→leB (92) (List.length ta)=true∧(rl) [.agg ([.ptr (.rw 14) (0),.bool (false),.agg (subL ta (1) (91)),.int .i64 (0)]:List AV),.agg ((Ez [.tup [.int .i64 (1),.agg ta]] sl [.tup [.int .i64 (1),.agg (A1 sl (13))],.tup [.int .i64 (1),.agg (A1 sl (14))],.tup [.int .i64 (1),.agg (A1 sl (15))],.tup [.int .i64 (1),.agg (A1 sl (16))],.tup [.int .i64 (1),.agg (A1 sl (17))],.tup [.int .i64 (1),.agg (A1 sl (18))],.tup [.int .i64 (1),.agg (A1 sl (19))],.tup [.int .i64 (1),.agg (A1 sl (20))],.tup [.int .i64 (1),.agg (A1 sl (21))],.tup [.int .i64 (1),.agg (A1 sl (22))],.tup [.int .i64 (1),.agg (A1 sl (23))],.tup [.int .i64 (1),.agg (A1 sl (24))],.tup [.int .i64 (1),.agg (A1 sl (25))],.tup [.int .i64 (1),.agg (A1 sl (26))]]):List AV)]=true∧(fb=true→R (.bool (true)) ([some ⟨1,ta⟩]++(A2 sl++((cS sl)))))∧(fb=false→R (.bool (false)) ([some ⟨1,ta⟩]++(A2 sl++((cS sl))))))∧(A5 (A1 sl (13)) (0)=false→isB ta (0)=true∧isB (A1 sl (13)) (0)=true∧R (.bool (((A5 ta (0):Bool)==A5 (A1 sl (13)) (0)))) ([some ⟨1,ta⟩]++(A2 sl++((cS sl))))))∧(A5 ta (0)=false→isB ta (0)=true∧isB (A1 sl (13)) (0)=true∧R (.bool (((A5 ta (0):Bool)==A5 (A1 sl (13)) (0)))) ([some ⟨1,ta⟩]++(A2 sl++((cS sl)))))):=by kernel_rfl
end Go.Am
namespace Go.Am
open Crc
set_option maxRecDepth 100000
def fO:Option Sg→Option Sg→Bool
 | none,none=>true
 | some p,some q=>Ht p q
 | _,_=>false
def pcB (x y:Pc):Bool:=x.num==y.num&&(x.par==y.par&&(x.grp==y.grp&&(x.usr==y.usr&&(x.en==y.en&&x.st==y.st))))
structure SmF (K i:Nat) (ar tbb sl Ls:List AV) (x y:Pc) (u v:Option Sg):Prop where
 lar:i*7+7≤ar.length
 ltb:i*7+7≤tbb.length
 X:∃ px,subL ar (i*7) 7=P5 x px∧((u=none∧px=.nilp)∨∃ p j,u=some p∧px=.ptr (.rw (1+j)) 0∧j<K∧j<sl.length∧A1 sl j=encP p)
 Y:subL tbb (i*7+1) 6=M3 y
 V:(v=none∧B4 tbb (i*7+7)=true)∨∃ q j,v=some q∧B4 tbb (i*7+7)=false∧J4 1 K tbb (i*7+7)=true∧A4 1 tbb (i*7+7)=j∧K4 tbb (i*7+7)=0∧j<K∧j<sl.length∧A1 sl j=encP q
 Ls:rowsA sl Ls=true
theorem aM7 {K i:Nat} {ar tbb sl Ls:List AV} {x y:Pc} {u v:Option Sg} {A B:Prop} (F:SmF K i ar tbb sl Ls x y u v) (hi:i<13) (hA:fO u v=true→A) (hB:fO u v=false→B) :
          (B4 (subL ar ((i)*7) (7)) (6)=true→
           decide ((0:Int)≤((i:Nat):Int))=true∧
           decide ((((i:Nat):Int):Int)<13)=true∧
           (B4 (tbb) ((i)*7+7)=true→
            A)∧
           (B4 (tbb) ((i)*7+7)=false→
            J4 1 K (tbb) ((i)*7+7)=true∧
            Nat.beq (K4 (tbb) ((i)*7+7)) (0)=true∧
            leB (A4 1 (tbb) ((i)*7+7)+1) (K)=true∧
            rowsA sl Ls=true∧
            leB (A4 1 (tbb) ((i)*7+7)+1) (List.length sl)=true∧
            okU [.agg (A1 sl (A4 1 (tbb) ((i)*7+7)))]=true∧
            B))∧
          (B4 (subL ar ((i)*7) (7)) (6)=false→
           J4 1 K (subL ar ((i)*7) (7)) (6)=true∧
           decide ((0:Int)≤((i:Nat):Int))=true∧
           decide ((((i:Nat):Int):Int)<13)=true∧
           (B4 (tbb) ((i)*7+7)=true→
            Nat.beq (K4 (subL ar ((i)*7) (7)) (6)) (0)=true∧
            leB (A4 1 (subL ar ((i)*7) (7)) (6)+1) (K)=true∧
            rowsA sl Ls=true∧
            leB (A4 1 (subL ar ((i)*7) (7)) (6)+1) (List.length sl)=true∧
            okU [.agg (A1 sl (A4 1 (subL ar ((i)*7) (7)) (6)))]=true∧
            B)∧
           (B4 (tbb) ((i)*7+7)=false→
            J4 1 K (tbb) ((i)*7+7)=true∧
            Nat.beq (K4 (subL ar ((i)*7) (7)) (6)) (0)=true∧
            leB (A4 1 (subL ar ((i)*7) (7)) (6)+1) (K)=true∧
            rowsA sl Ls=true∧
            leB (A4 1 (subL ar ((i)*7) (7)) (6)+1) (List.length sl)=true∧
            okU [.agg (A1 sl (A4 1 (subL ar ((i)*7) (7)) (6)))]=true∧
            Nat.beq (K4 (tbb) ((i)*7+7)) (0)=true∧
            leB (A4 1 (tbb) ((i)*7+7)+1) (K)=true∧
            rowsA sl Ls=true∧
            leB (A4 1 (tbb) ((i)*7+7)+1) (List.length sl)=true∧
            okU [.agg (A1 sl (A4 1 (tbb) ((i)*7+7)))]=true∧
            (Ei [.agg (A1 sl (A4 1 (subL ar ((i)*7) (7)) (6))),.agg (A1 sl (A4 1 (tbb) ((i)*7+7)))]=true→
             A)∧
            (Ei [.agg (A1 sl (A4 1 (subL ar ((i)*7) (7)) (6))),.agg (A1 sl (A4 1 (tbb) ((i)*7+7)))]=false→
             B))):=by
 obtain ⟨px,hX,hu⟩:=F.X;rw [hX];have d1:decide ((0:Int)≤((i:Nat):Int))=true:=decide_eq_true (by omega);have d2:decide ((((i:Nat):Int):Int)<13)=true:=decide_eq_true (by omega);refine ⟨fun h1=>⟨d1,d2,fun h2=>?_,fun h2=>?_⟩,fun h1=>?_⟩
 ·rcases hu with ⟨rfl,rfl⟩ | ⟨p,j,rfl,rfl,_⟩
  ·rcases F.V with ⟨rfl,_⟩ | ⟨q,j,rfl,n1,_⟩
   ·exact hA rfl
   ·rw [n1] at h2;cases h2
  ·cases h1
 ·rcases hu with ⟨rfl,rfl⟩ | ⟨p,j,rfl,rfl,_⟩
  ·rcases F.V with ⟨rfl,n1⟩ | ⟨q,j,rfl,n1,n2,n3,n4,n5,n6,n7⟩
   ·rw [n1] at h2;cases h2
   ·rw [n3,n4,n7];exact ⟨n2,rfl,A6.2 (by omega),F.Ls,A6.2 (by omega),O8 q,hB rfl⟩
  ·cases h1
 ·rcases hu with ⟨rfl,rfl⟩ | ⟨p,j,rfl,rfl,m5,m6,m7⟩
  ·cases h1
  ·have f1:A4 1 (P5 x (.ptr (.rw (1+j)) 0)) 6=j:=by show 1+j - 1=j;omega
   have f2:J4 1 K (P5 x (.ptr (.rw (1+j)) 0)) 6=true:=by
    show (Nat.ble 1 (1+j)&&Nat.blt (1+j) (1+K))=true;rw [Bool.and_eq_true];exact ⟨Nat.ble_eq_true_of_le (by omega),Nat.ble_eq_true_of_le (by omega)⟩
   rw [f1,m7];refine ⟨f2,d1,d2,fun h2=>?_,fun h2=>?_⟩
   ·rcases F.V with ⟨rfl,n1⟩ | ⟨q,j',rfl,n1,n2,n3,n4,n5,n6,n7⟩
    ·exact ⟨rfl,A6.2 (by omega),F.Ls,A6.2 (by omega),O8 p,hB rfl⟩
    ·rw [n1] at h2;cases h2
   ·rcases F.V with ⟨rfl,n1⟩ | ⟨q,j',rfl,n1,n2,n3,n4,n5,n6,n7⟩
    ·rw [n1] at h2;cases h2
    ·rw [n3,n4,n7,iH];exact ⟨n2,rfl,A6.2 (by omega),F.Ls,A6.2 (by omega),O8 p,rfl,A6.2 (by omega),F.Ls,A6.2 (by omega),O8 q,hA,hB⟩
theorem aM6 {K i:Nat} {ar tbb sl Ls:List AV} {x y:Pc} {u v:Option Sg} {A B E:Prop} (F:i<13→SmF K i ar tbb sl Ls x y u v) (hA:i<13→(pcB x y&&fO u v)=true→A) (hB:i<13→(pcB x y&&fO u v)=false→B) (hE:¬i<13→E) :
  (decide ((((i:Nat):Int):Int)<13)=true→
   decide ((0:Int)≤((i:Nat):Int))=true∧
   decide ((((i:Nat):Int):Int)<13)=true∧
   leB ((i)*7+7) (List.length ar)=true∧
   cellsB (subL ar ((i)*7) (7))=true∧
   Nat.beq (List.length (subL ar ((i)*7) (7))) (7)=true∧
   leB (6) (List.length (subL ar ((i)*7) (7)))=true∧
   decide ((0:Int)≤((i:Nat):Int))=true∧
   decide ((((i:Nat):Int):Int)<13)=true∧
   leB ((i)*7+7) (List.length (tbb))=true∧
   isI .i64 (subL (subL ar ((i)*7) (7)) (0) (6)) (0)=true∧
   isI .i64 (subL (tbb) ((i)*7+1) (6)) (0)=true∧
   isI .i64 (subL (subL ar ((i)*7) (7)) (0) (6)) (1)=true∧
   isI .i64 (subL (tbb) ((i)*7+1) (6)) (1)=true∧
   isI .i64 (subL (subL ar ((i)*7) (7)) (0) (6)) (2)=true∧
   isI .i64 (subL (tbb) ((i)*7+1) (6)) (2)=true∧
   isI .i64 (subL (subL ar ((i)*7) (7)) (0) (6)) (3)=true∧
   isI .i64 (subL (tbb) ((i)*7+1) (6)) (3)=true∧
   isB (subL (subL ar ((i)*7) (7)) (0) (6)) (4)=true∧
   isB (subL (tbb) ((i)*7+1) (6)) (4)=true∧
   isI .i64 (subL (subL ar ((i)*7) (7)) (0) (6)) (5)=true∧
   isI .i64 (subL (tbb) ((i)*7+1) (6)) (5)=true∧
   (((A0 (subL (subL ar ((i)*7) (7)) (0) (6)) (0):Int)==A0 (subL (tbb) ((i)*7+1) (6)) (0))=true→
    (((A0 (subL (subL ar ((i)*7) (7)) (0) (6)) (1):Int)==A0 (subL (tbb) ((i)*7+1) (6)) (1))=true→
     (((A0 (subL (subL ar ((i)*7) (7)) (0) (6)) (2):Int)==A0 (subL (tbb) ((i)*7+1) (6)) (2))=true→
      (((A0 (subL (subL ar ((i)*7) (7)) (0) (6)) (3):Int)==A0 (subL (tbb) ((i)*7+1) (6)) (3))=true→
       (A5 (subL (subL ar ((i)*7) (7)) (0) (6)) (4)=true→
        (A5 (subL (tbb) ((i)*7+1) (6)) (4)=true→
         (((A0 (subL (subL ar ((i)*7) (7)) (0) (6)) (5):Int)==A0 (subL (tbb) ((i)*7+1) (6)) (5))=true→
          (B4 (subL ar ((i)*7) (7)) (6)=true→
           decide ((0:Int)≤((i:Nat):Int))=true∧
           decide ((((i:Nat):Int):Int)<13)=true∧
           (B4 (tbb) ((i)*7+7)=true→
            A)∧
           (B4 (tbb) ((i)*7+7)=false→
            J4 1 K (tbb) ((i)*7+7)=true∧
            Nat.beq (K4 (tbb) ((i)*7+7)) (0)=true∧
            leB (A4 1 (tbb) ((i)*7+7)+1) (K)=true∧
            rowsA sl Ls=true∧
            leB (A4 1 (tbb) ((i)*7+7)+1) (List.length sl)=true∧
            okU [.agg (A1 sl (A4 1 (tbb) ((i)*7+7)))]=true∧
            B))∧
          (B4 (subL ar ((i)*7) (7)) (6)=false→
           J4 1 K (subL ar ((i)*7) (7)) (6)=true∧
           decide ((0:Int)≤((i:Nat):Int))=true∧
           decide ((((i:Nat):Int):Int)<13)=true∧
           (B4 (tbb) ((i)*7+7)=true→
            Nat.beq (K4 (subL ar ((i)*7) (7)) (6)) (0)=true∧
            leB (A4 1 (subL ar ((i)*7) (7)) (6)+1) (K)=true∧
            rowsA sl Ls=true∧
            leB (A4 1 (subL ar ((i)*7) (7)) (6)+1) (List.length sl)=true∧
            okU [.agg (A1 sl (A4 1 (subL ar ((i)*7) (7)) (6)))]=true∧
            B)∧
           (B4 (tbb) ((i)*7+7)=false→
            J4 1 K (tbb) ((i)*7+7)=true∧
            Nat.beq (K4 (subL ar ((i)*7) (7)) (6)) (0)=true∧
            leB (A4 1 (subL ar ((i)*7) (7)) (6)+1) (K)=true∧
            rowsA sl Ls=true∧
            leB (A4 1 (subL ar ((i)*7) (7)) (6)+1) (List.length sl)=true∧
            okU [.agg (A1 sl (A4 1 (subL ar ((i)*7) (7)) (6)))]=true∧
            Nat.beq (K4 (tbb) ((i)*7+7)) (0)=true∧
            leB (A4 1 (tbb) ((i)*7+7)+1) (K)=true∧
            rowsA sl Ls=true∧
            leB (A4 1 (tbb) ((i)*7+7)+1) (List.length sl)=true∧
            okU [.agg (A1 sl (A4 1 (tbb) ((i)*7+7)))]=true∧
            (Ei [.agg (A1 sl (A4 1 (subL ar ((i)*7) (7)) (6))),.agg (A1 sl (A4 1 (tbb) ((i)*7+7)))]=true→
             A)∧
            (Ei [.agg (A1 sl (A4 1 (subL ar ((i)*7) (7)) (6))),.agg (A1 sl (A4 1 (tbb) ((i)*7+7)))]=false→
             B))))∧
         (((A0 (subL (subL ar ((i)*7) (7)) (0) (6)) (5):Int)==A0 (subL (tbb) ((i)*7+1) (6)) (5))=false→
          B))∧
        (A5 (subL (tbb) ((i)*7+1) (6)) (4)=false→
         B))∧
       (A5 (subL (subL ar ((i)*7) (7)) (0) (6)) (4)=false→
        (A5 (subL (tbb) ((i)*7+1) (6)) (4)=true→
         B)∧
        (A5 (subL (tbb) ((i)*7+1) (6)) (4)=false→
         (((A0 (subL (subL ar ((i)*7) (7)) (0) (6)) (5):Int)==A0 (subL (tbb) ((i)*7+1) (6)) (5))=true→
          (B4 (subL ar ((i)*7) (7)) (6)=true→
           decide ((0:Int)≤((i:Nat):Int))=true∧
           decide ((((i:Nat):Int):Int)<13)=true∧
           (B4 (tbb) ((i)*7+7)=true→
            A)∧
           (B4 (tbb) ((i)*7+7)=false→
            J4 1 K (tbb) ((i)*7+7)=true∧
            Nat.beq (K4 (tbb) ((i)*7+7)) (0)=true∧
            leB (A4 1 (tbb) ((i)*7+7)+1) (K)=true∧
            rowsA sl Ls=true∧
            leB (A4 1 (tbb) ((i)*7+7)+1) (List.length sl)=true∧
            okU [.agg (A1 sl (A4 1 (tbb) ((i)*7+7)))]=true∧
            B))∧
          (B4 (subL ar ((i)*7) (7)) (6)=false→
           J4 1 K (subL ar ((i)*7) (7)) (6)=true∧
           decide ((0:Int)≤((i:Nat):Int))=true∧
           decide ((((i:Nat):Int):Int)<13)=true∧
           (B4 (tbb) ((i)*7+7)=true→
            Nat.beq (K4 (subL ar ((i)*7) (7)) (6)) (0)=true∧
            leB (A4 1 (subL ar ((i)*7) (7)) (6)+1) (K)=true∧
            rowsA sl Ls=true∧
            leB (A4 1 (subL ar ((i)*7) (7)) (6)+1) (List.length sl)=true∧
            okU [.agg (A1 sl (A4 1 (subL ar ((i)*7) (7)) (6)))]=true∧
            B)∧
           (B4 (tbb) ((i)*7+7)=false→
            J4 1 K (tbb) ((i)*7+7)=true∧
            Nat.beq (K4 (subL ar ((i)*7) (7)) (6)) (0)=true∧
            leB (A4 1 (subL ar ((i)*7) (7)) (6)+1) (K)=true∧
            rowsA sl Ls=true∧
            leB (A4 1 (subL ar ((i)*7) (7)) (6)+1) (List.length sl)=true∧
            okU [.agg (A1 sl (A4 1 (subL ar ((i)*7) (7)) (6)))]=true∧
            Nat.beq (K4 (tbb) ((i)*7+7)) (0)=true∧
            leB (A4 1 (tbb) ((i)*7+7)+1) (K)=true∧
            rowsA sl Ls=true∧
            leB (A4 1 (tbb) ((i)*7+7)+1) (List.length sl)=true∧
            okU [.agg (A1 sl (A4 1 (tbb) ((i)*7+7)))]=true∧
            (Ei [.agg (A1 sl (A4 1 (subL ar ((i)*7) (7)) (6))),.agg (A1 sl (A4 1 (tbb) ((i)*7+7)))]=true→
             A)∧
            (Ei [.agg (A1 sl (A4 1 (subL ar ((i)*7) (7)) (6))),.agg (A1 sl (A4 1 (tbb) ((i)*7+7)))]=false→
             B))))∧
         (((A0 (subL (subL ar ((i)*7) (7)) (0) (6)) (5):Int)==A0 (subL (tbb) ((i)*7+1) (6)) (5))=false→
          B))))∧
      (((A0 (subL (subL ar ((i)*7) (7)) (0) (6)) (3):Int)==A0 (subL (tbb) ((i)*7+1) (6)) (3))=false→
       B))∧
     (((A0 (subL (subL ar ((i)*7) (7)) (0) (6)) (2):Int)==A0 (subL (tbb) ((i)*7+1) (6)) (2))=false→
      B))∧
    (((A0 (subL (subL ar ((i)*7) (7)) (0) (6)) (1):Int)==A0 (subL (tbb) ((i)*7+1) (6)) (1))=false→
     B))∧
   (((A0 (subL (subL ar ((i)*7) (7)) (0) (6)) (0):Int)==A0 (subL (tbb) ((i)*7+1) (6)) (0))=false→
    B))∧
  (decide ((((i:Nat):Int):Int)<13)=false→
   E):=by
 refine ⟨fun h=>?_,fun h=>hE (by have:=of_decide_eq_false h;omega)⟩;have hi:i<13:=by have:=of_decide_eq_true h;omega
 have F:=F hi;have hA:=hA hi;have hB:=hB hi;have tl:=fun (h:(pcB x y)=true)=>aM7 (A:=A) (B:=B) F hi (fun e=>hA (by rw [h,e];rfl)) (fun e=>hB (by rw [h,e];rfl));have no:=fun (h:(pcB x y)=false)=>hB (by rw [h];rfl);obtain ⟨px,hX,hu⟩:=F.X;rw [hX] at tl ⊢;rw [F.Y]
 refine ⟨decide_eq_true (by omega),h,A6.2 F.lar,?_,rfl,rfl,decide_eq_true (by omega),h,A6.2 F.ltb,rfl,rfl,rfl,rfl,rfl,rfl,rfl,rfl,rfl,rfl,rfl,rfl,fun c0=>⟨fun c1=>⟨fun c2=>⟨fun c3=>⟨fun c4=>⟨fun c5=>⟨fun c6=>?_,fun c6=>?_⟩,fun c5=>?_⟩,fun c4=>⟨fun c5=>?_,fun c5=>⟨fun c6=>?_,fun c6=>?_⟩⟩⟩,fun c3=>?_⟩,fun c2=>?_⟩,fun c1=>?_⟩,fun c0=>?_⟩
 ·rcases hu with ⟨rfl,rfl⟩ | ⟨p,j,rfl,rfl,_⟩<;>rfl
 ·exact tl (by
   have c0:(x.num==y.num)=true:=c0;have c1:(x.par==y.par)=true:=c1;have c2:(x.grp==y.grp)=true:=c2;have c3:(x.usr==y.usr)=true:=c3;have c4:x.en=true:=c4;have c5:y.en=true:=c5;have c6:(x.st==y.st)=true:=c6
   unfold pcB;rw [c0,c1,c2,c3,c4,c5,c6];rfl)
 ·exact no (by
   have c6:(x.st==y.st)=false:=c6
   unfold pcB;rw [c6];simp)
 ·exact no (by
   have c4:x.en=true:=c4;have c5:y.en=false:=c5
   unfold pcB;rw [c4,c5];simp)
 ·exact no (by
   have c4:x.en=false:=c4;have c5:y.en=true:=c5
   unfold pcB;rw [c4,c5];simp)
 ·exact tl (by
   have c0:(x.num==y.num)=true:=c0;have c1:(x.par==y.par)=true:=c1;have c2:(x.grp==y.grp)=true:=c2;have c3:(x.usr==y.usr)=true:=c3;have c4:x.en=false:=c4;have c5:y.en=false:=c5;have c6:(x.st==y.st)=true:=c6
   unfold pcB;rw [c0,c1,c2,c3,c4,c5,c6];rfl)
 ·exact no (by
   have c6:(x.st==y.st)=false:=c6
   unfold pcB;rw [c6];simp)
 ·exact no (by
   have c3:(x.usr==y.usr)=false:=c3
   unfold pcB;rw [c3];simp)
 ·exact no (by
   have c2:(x.grp==y.grp)=false:=c2
   unfold pcB;rw [c2];simp)
 ·exact no (by
   have c1:(x.par==y.par)=false:=c1
   unfold pcB;rw [c1];simp)
 ·exact no (by
   have c0:(x.num==y.num)=false:=c0
   unfold pcB;rw [c0];simp)
end Go.Am
namespace Go.Am
open Go.Proofs Crc
set_option maxRecDepth 100000
def Cu (s s':Ptb):List AV:=setsL encP s++(.agg (encT 15 s')::setsL encP s')
def Oy (t:TS) (s s':Ptb):Hp:=B0 t s++P8 t (B3 15 s') s' s'
theorem Dx {t:TS} {s s':Ptb}:(Oy t s s').length=28:=by simp [Oy,A9,Cg]
theorem hS2 (G:Nat→List AV) (s s':Ptb):vHp G (Ja (.var 1 (encT 1 s)) (.var 2 (Cu s s')))=Oy tsP s s':=rfl
def Ay (s s':Ptb):Bool:=(List.range 13).all fun n=>pcB (s.at_ n) (s'.at_ n)&&fO (s.sg n) (s'.sg n)
theorem sl2_lo {s s':Ptb} {n:Nat} (h:n<13):A1 (Cu s s') n=I4 encP (s.sg n):=by
 rw [←K9 (enc:=encP) (s:=s) h];unfold A1 Cu;rw [List.getElem?_append_left (by rw [F8];omega)]
theorem lV {s s':Ptb}:A1 (Cu s s') 13=encT 15 s':=by
 unfold A1 Cu;rw [List.getElem?_append_right (by rw [F8];omega),F8];rfl
theorem sl2_hi {s s':Ptb} {n:Nat} (h:n<13):A1 (Cu s s') (14+n)=I4 encP (s'.sg n):=by
 rw [←K9 (enc:=encP) (s:=s') h];unfold A1 Cu;rw [List.getElem?_append_right (by rw [F8];omega),F8,show 14+n - 13=n+1 by omega,List.getElem?_cons_succ]
theorem qH {s s':Ptb}:(Cu s s').length=27:=by simp [Cu,F8]
theorem uQ (s:Ptb):subL (encT 1 s) 1 91=arT s 13:=by unfold arT;rw [eI]
theorem sub76 (l:List AV) (o:Nat):subL l o 6=(subL l o 7).take 6:=by unfold subL;rw [List.take_take];rfl
theorem sm_F {s s':Ptb} {i:Nat} (hi:i<13):SmF 27 i (subL (encT 1 s) 1 91) (A1 (Cu s s') 13) (Cu s s') (rp 27 (Cu s s')) (s.at_ i) (s'.at_ i) (s.sg i) (s'.sg i):=by
 rw [uQ,lV];refine ⟨by rw [Zs];omega,by rw [Q8];omega,⟨ptC s 13 i,Ed hi,?_⟩,?_,?_,D6 _ 27⟩
 ·unfold ptC;cases e:s.sg i with
  | none=>exact .inl ⟨rfl,rfl⟩
  | some p=>
   refine .inr ⟨p,i,rfl,?_,by omega,by rw [qH];omega,by rw [sl2_lo hi,e];rfl⟩;simp only;rw [if_neg (by omega)]
 ·rw [sub76,lA hi];rfl
 ·have h:=uW (b:=15) (s:=s') hi;cases e:s'.sg i with
  | none=>exact .inl ⟨rfl,by rw [Gk h,e];rfl⟩
  | some q=>
   rw [e] at h;refine .inr ⟨q,14+i,rfl,by rw [Gk h];rfl,?_,?_,?_,by omega,by rw [qH];omega,by rw [sl2_hi hi,e];rfl⟩
   ·unfold J4;rw [h];simp only [H5,Bool.and_eq_true];exact ⟨Nat.ble_eq_true_of_le (by omega),Nat.ble_eq_true_of_le (by omega)⟩
   ·unfold A4;rw [h];show 15+i - 1=14+i;omega
   ·unfold K4;rw [h];rfl
theorem qE {s s':Ptb} {m:Nat} (hm:28≤m):D7 m (Oy tsP s s')=true:=by
 unfold Oy;refine hpB_app (eV s (by omega)) ?_;unfold P8 L7;have h1:A8 m (encV (B3 15 s') s')=true:=tsP_ok.bnd m (B3 15 s') s' fun n hn=>Bx (by omega)
 have h2:∀ l:List Nat,D7 m (l.map fun n=>some (⟨1,I4 encP (s'.sg n)⟩:Blk))=true:=fun l=>by
  induction l with
  | nil=>rfl
  | cons a l ih=>simp only [List.map_cons,D7,ih,Bool.and_true];exact Au tsP_ok _ _
 simp only [D7];rw [Bool.and_eq_true];exact ⟨h1,h2 _⟩
theorem ar_b1 (s:Ptb) {m:Nat} (h:15≤m):bnd m (.agg (subL (encT 1 s) 1 91))=true:=by
 rw [uQ]
 have:=pA s (m:=m) h
 simpa [bnd] using this
theorem C8.weak {m:Nat} {H K:Hp} {b:Bool} {a c d a' c' d':AV} (h:C8 m [a,.bool b,c,d] H [a',.bool b,c',d'] K):C8 m [.undef,.bool b,.undef,.undef] H [a',.bool b,c',d'] K:=by
 obtain ⟨θ,h1,h2,h3,h4,h5,h6,h7,h8⟩:=h.ex;refine ⟨θ,h1,h2,h3,h4,h5,h6,rfl,fun k v hk=>?_⟩
 match k,hk with
 | 0,hk=>simp at hk;subst hk;exact ⟨rfl,.inl rfl⟩
 | 1,hk=>simp at hk;subst hk;exact h8 1 (.bool b) rfl
 | 2,hk=>simp at hk;subst hk;exact ⟨rfl,.inl rfl⟩
 | 3,hk=>simp at hk;subst hk;exact ⟨rfl,.inl rfl⟩
theorem aM8 (G:Nat→List AV) (B:Nat) (s s':Ptb):AWp (⟨Try.prog,G,B⟩:A3) 28 (.loop (loopN Try.f15 0)) (fl 52 [1,4,23,24] [.ptr (.rw 14) 0,.bool false,.agg (subL (encT 1 s) 1 91),.int .i64 0]) (vHp G (Ja (.var 1 (encT 1 s)) (.var 2 (Cu s s')))) (lv 52 [1,4,23,24] (LOut.post G 28 (.tst (.var 9 (Ay s s')) (.one (.exit 0) [.undef,.undef,.undef,.undef] (Ja (.var 1 (encT 1 s)) (.var 2 (Cu s s')))) (.one .ret [.undef,.bool (.lit false),.undef,.undef] (Ja (.var 1 (encT 1 s)) (.var 2 (Cu s s'))))))):=by
 refine Yi (fun i=>∀ j,j<13→j<i→(pcB (s.at_ j) (s'.at_ j)&&fO (s.sg j) (s'.sg j))=true) 13 (fun i=>[.ptr (.rw 14) 0,.bool false,.agg (subL (encT 1 s) 1 91),.int .i64 (i:Int)]) (fun _=>vHp G (Ja (.var 1 (encT 1 s)) (.var 2 (Cu s s')))) (fun j hj h=>by omega) fun i hi hP=>?_
 refine E2 (C:=(⟨Try.prog,G,B⟩:A3)) (K:=Df Try.prog [(48,1,27)] [36] [(24,cM N0)] [] 0) (fuel:=400) (n0:=20) (m:=28) (c:=loopN Try.f15 0)
  (vs:=[.ptr (.rw 14) (.lit 0),.bool (.lit false),.agg (.var 25 (subL (encT 1 s) 1 91)),.int .i64 (.ofN (.var 8 i))]) (H:=(Ja (.var 1 (encT 1 s)) (.var 2 (Cu s s')))) (by rw [show loopsOf (loopN Try.f15 0)=[] by kernel_rfl];exact dgoodf (mix G B) (by kernel_rfl) (.cons (wH G B) .nil) .nil) (by simp [Ja]) ?_
 rw [sm_b]
 have vw:∀ (E:Hp) (vs:List AV) (n:Int),vs=[.ptr (.rw 14) 0,.bool false,.agg (subL (encT 1 s) 1 91),.int .i64 n]→C8 28 [.ptr (.rw 14) 0,.bool false,.agg (subL (encT 1 s) 1 91),.int .i64 n] (vHp G (Ja (.var 1 (encT 1 s)) (.var 2 (Cu s s')))) vs (vHp G (Ja (.var 1 (encT 1 s)) (.var 2 (Cu s s')))++E):=fun E vs n e=>by
  subst e;rw [hS2];refine C8.same (by rw [Dx];omega) (by rw [Dx];exact qE (by omega)) ?_;rw [Dx];exact ⟨⟨rfl,rfl⟩,⟨rfl,rfl⟩,⟨ar_b1 s (by omega),rfl⟩,⟨rfl,rfl⟩,trivial⟩
 refine aM6 (K:=27) (x:=s.at_ i) (y:=s'.at_ i) (u:=s.sg i) (v:=s'.sg i) (fun hi=>sm_F hi) (fun hi hb=>?_) (fun hi hb=>?_) (fun hi=>?_)
 ·refine ⟨hi,fun j hj hji=>?_,.inr (vw [some ⟨1,subL (subL (encT 1 s) 1 91) (i*7) 7⟩] _ _ (by rw [D9 (by omega)];rfl))⟩;by_cases e:j=i
  ·subst e;exact hb
  ·exact hP j hj (by omega)
 ·refine .inr ⟨?_,rfl,.inr (C8.weak (vw [some ⟨1,subL (subL (encT 1 s) 1 91) (i*7) 7⟩] _ _ rfl))⟩;show Ay s s'=false;cases hs:Ay s s' with
  | false=>rfl
  | true=>
   unfold Ay at hs;rw [List.all_eq_true] at hs;rw [hs i (List.mem_range.2 hi)] at hb;cases hb
 ·refine .inl ⟨?_,rfl,.inl ⟨trivial,rfl⟩⟩;show Ay s s'=true;unfold Ay;rw [List.all_eq_true];intro j hj;exact hP j (List.mem_range.1 hj) (by have:=List.mem_range.1 hj;omega)
theorem aP9 (G:Nat→List AV) (B:Nat) (s s':Ptb):ACalls (⟨Try.prog,G,B⟩:A3) 15 [.ptr (.rw 0) 0,.ptr (.rw 14) 0] (Oy tsP s s') fun v H'=>v=.bool (Ay s s')∧H'=Oy tsP s s':=by
 have h:=D3 (C:=(⟨Try.prog,G,B⟩:A3)) (K:=Dc Try.prog [36] [] [E5 2370 (G5 [.ptr (.rw 14) 0,.bool false,.agg (subL (encT 1 s) 1 91),.int .i64 0] (vHp G (Ja (.var 1 (encT 1 s)) (.var 2 (Cu s s'))))) 0 52 [1,4,23,24] (.tst (.var 9 (Ay s s')) (.one (.exit 0) [.undef,.undef,.undef,.undef] (Ja (.var 1 (encT 1 s)) (.var 2 (Cu s s')))) (.one .ret [.undef,.bool (.lit false),.undef,.undef] (Ja (.var 1 (encT 1 s)) (.var 2 (Cu s s')))))] 28) (fuel:=300) (n0:=20) (f:=15) (fn:=Try.f15) (args:=[.ptr (.rw 0) (.lit 0),.ptr (.rw 14) (.lit 0)]) (H:=(Ja (.var 1 (encT 1 s)) (.var 2 (Cu s s')))) (keep:=28)
  (R:=fun v H=>v=.bool (Ay s s')∧H=vHp G (Ja (.var 1 (encT 1 s)) (.var 2 (Cu s s')))) (dgood (mix G B) (by kernel_rfl) .nil (.cast (.cons (i:=0) (by kernel_rfl) rfl (N5 rfl (aM8 G B s s')) .nil) (by kernel_rfl))) (by kernel_rfl) (by kernel_rfl) (by kernel_rfl) (by
  have:=sm_c G (G5 [.ptr (.rw 14) 0,.bool false,.agg (subL (encT 1 s) 1 91),.int .i64 0] (vHp G (Ja (.var 1 (encT 1 s)) (.var 2 (Cu s s'))))) (encT 1 s) (Cu s s') (Ay s s') (fun _ _ _=>False) (fun v H=>v=.bool (Ay s s')∧H=vHp G (Ja (.var 1 (encT 1 s)) (.var 2 (Cu s s'))))
  refine Eq.mpr this ⟨rfl,fun _=>⟨?_,fun _=>⟨A6.2 (by rw [Q8];omega),F5,fun h=>⟨by rw [h],rfl⟩,fun h=>⟨by rw [h],rfl⟩⟩,fun h=>?_⟩,fun h=>by cases h⟩
  ·rw [lV];rfl
  ·rw [lV] at h;cases h)
 rw [hS2] at h;refine ACalls.keep (k:=28) h (by rw [Dx];exact Nat.le_refl _) ?_ rfl (by simp);rw [Dx];exact qE (by omega)
end Go.Am
namespace Go.Am
open Go.Proofs Crc
set_option maxRecDepth 100000
theorem n10 (G:Nat→List AV) (Q:Ex→List AV→Hp→Prop) (R:AV→Hp→Prop):vT G Q R (D0 (Dc Try.prog [35] [] [] 0) 100 10 Try.f10 [] [] 4)=(
  R (.ptr (.rw 0) (0)) [some ⟨1,([.bool (true),.int .i64 (0),.int .i64 (0),.int .i64 (0),.int .i64 (0),.bool (false),.int .i64 (0),.nilp,.int .i64 (1),.int .i64 (0),.int .i64 (1),.int .i64 (0),.bool (false),.int .i64 (0),.ptr (.rw 1) (0),.int .i64 (0),.int .i64 (0),.int .i64 (0),.int .i64 (0),.bool (false),.int .i64 (0),.nilp,.int .i64 (0),.int .i64 (0),.int .i64 (0),.int .i64 (0),.bool (false),.int .i64 (0),.nilp,.int .i64 (0),.int .i64 (0),.int .i64 (0),.int .i64 (0),.bool (false),.int .i64 (0),.nilp,.int .i64 (0),.int .i64 (0),.int .i64 (0),.int .i64 (0),.bool (false),.int .i64 (0),.nilp,.int .i64 (0),.int .i64 (0),.int .i64 (0),.int .i64 (0),.bool (false),.int .i64 (0),.nilp,.int .i64 (0),.int .i64 (0),.int .i64 (0),.int .i64 (0),.bool (false),.int .i64 (0),.nilp,.int .i64 (0),.int .i64 (0),.int .i64 (0),.int .i64 (0),.bool (false),.int .i64 (0),.nilp,.int .i64 (0),.int .i64 (0),.int .i64 (0),.int .i64 (0),.bool (false),.int .i64 (0),.nilp,.int .i64 (0),.int .i64 (0),.int .i64 (0),.int .i64 (0),.bool (false),.int .i64 (0),.nilp,.int .i64 (0),.int .i64 (0),.int .i64 (0),.int .i64 (0),.bool (false),.int .i64 (0),.nilp,.int .i64 (0),.int .i64 (0),.int .i64 (0),.int .i64 (0),.bool (false),.int .i64 (0),.nilp]:List AV)⟩,some ⟨1,([.bool (true),.int .u32 (0),.int .u32 (0),.int .u32 (0),.int .u32 (0),.int .u32 (0),.int .u32 (0),.int .u32 (0),.int .u32 (0),.int .u32 (0),.int .u32 (0),.int .u32 (0),.int .u32 (0),.int .u32 (0),.int .u32 (0),.int .u32 (0),.int .u32 (0),.int .u32 (0),.int .u32 (0)]:List AV)⟩]):=by kernel_rfl
theorem ACalls.pads {C:A3} {f:FuncId} {args:List AV} {H:Hp} {v0:AV} (hn:∀ k,tL k v0 v0):∀ (k:Nat) {H1:Hp},(ACalls C f args H fun v H'=>v=v0∧H'=H1)→ACalls C f args H fun v H'=>v=v0∧H'=H1++List.replicate k (some ⟨1,[]⟩)
 | 0,H1,h=>by rw [List.replicate_zero,List.append_nil];exact h
 | k+1,H1,h=>by
  have:=ACalls.pads hn k (H1:=H1++[some ⟨1,[]⟩]) (ACalls.nil 1 h fun v H' ⟨e1,e2⟩=>.inr ⟨v0,⟨rfl,by rw [e2]⟩,Fq _,by rw [e1];exact hn _⟩)
  rw [List.append_assoc,List.singleton_append,←List.replicate_succ] at this;exact this
def new0:Ptb:=⟨fun n=>if n=1 then ⟨1,0,1,0,false,0⟩ else zc,fun n=>if n=1 then some Yb else none⟩
theorem Oj:Wf new0:=by
 refine ⟨fun n hn=>?_,fun n=>?_,rfl,rfl⟩
 ·have:n≠1:=by omega
  exact ⟨if_neg this,if_neg this⟩
 ·by_cases h:n=1
  ·subst h;exact .inr ⟨rfl,by omega,by omega,rfl,by decide,by decide⟩
  ·exact .inl ⟨if_neg h,if_neg h⟩
theorem aC7:C8 0 [.ptr (.rw 0) 0] (B0 tsP new0) [.ptr (.rw 0) 0] ([some (⟨1,encV (fun n=>if n=1 then .ptr (.rw 1) 0 else .nilp) new0⟩:Blk),some ⟨1,encP Yb⟩]++List.replicate 12 (some ⟨1,[]⟩)):=by
 refine C8.renM (θ:=[0,2,1,3,4,5,6,7,8,9,10,11,12,13]) (Nat.zero_le _) (fun i hi=>by omega) (by decide) ?_ rfl ⟨rfl,trivial⟩;exact ⟨⟨rfl,rfl⟩,⟨rfl,rfl⟩,⟨rfl,rfl⟩,⟨rfl,rfl⟩,⟨rfl,rfl⟩,⟨rfl,rfl⟩,⟨rfl,rfl⟩,⟨rfl,rfl⟩,⟨rfl,rfl⟩,⟨rfl,rfl⟩,⟨rfl,rfl⟩,⟨rfl,rfl⟩,⟨rfl,rfl⟩,⟨rfl,rfl⟩,trivial⟩
theorem p_new (G:Nat→List AV) (B:Nat):ACalls (⟨Try.prog,G,B⟩:A3) 10 [] [] fun v H'=>v=.ptr (.rw 0) 0∧H'=B0 tsP new0:=by
 have h:=D3 (C:=(⟨Try.prog,G,B⟩:A3)) (f:=10) (args:=[]) (H:=[]) (keep:=4) (R:=fun v H'=>v=.ptr (.rw 0) 0∧H'=[some (⟨1,encV (fun n=>if n=1 then .ptr (.rw 1) 0 else .nilp) new0⟩:Blk),some ⟨1,encP Yb⟩]) (dgood (inl:=[35]) (sums:=[]) (ls:=[]) (M:=0) (cs:=[]) (mix G B) (by kernel_rfl) .nil .nil) (by kernel_rfl) (by kernel_rfl) (by kernel_rfl) (fuel:=100) (n0:=10) (by rw [n10];exact ⟨rfl,rfl⟩);have h:=h.keep (Nat.zero_le _) rfl rfl (by simp);have h:=ACalls.pads (v0:=.ptr (.rw 0) 0) (fun k=>show Pn k (.ptr (.rw 0) 0) (.ptr (.rw 0) 0) from .inl rfl) 12 h
 exact h.view fun v H' ⟨e1,e2⟩=>⟨.ptr (.rw 0) 0,B0 tsP new0,⟨rfl,rfl⟩,by rw [e1,e2];exact aC7⟩
end Go.Am
