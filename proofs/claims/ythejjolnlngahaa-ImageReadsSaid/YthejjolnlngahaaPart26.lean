/-
  ImageReads: the law's loops: trees. ImageReads: the law's loops.
-/
import Derived.Test.YthejjolnlngahaaPart25
namespace Go.Am
open Go.Proofs
set_option maxRecDepth 100000
section
variable (G:Nat→List AV) (B:Nat)
theorem rn_0 (L i:Nat) (ow:List AV) (Q:Ex→List AV→Hp→Prop) (R:AV→Hp→Prop):vT G Q R (H4 (Dc Try.prog [] [] [] 0) 300 20 6 (A5 Try.f8 0) 106 [3,4,6,8,10] [.slice true (.rw 2) (.lit 0) (.var 5 L),.ptr (.rw 3) (.lit 0),.ptr (.rw 4) (.lit 0),.ptr (.rw 5) (.lit 0),.int .i64 (.ofN (.var 8 i))] [none,some ⟨1,.of [.int .u8 (.lit 119)]⟩,some ⟨1,.var 12 ow⟩,some ⟨1,.of [.int .i64 (.lit 0),.nils,.nils]⟩,some ⟨1,.of [.int .i64 (.lit 0),.nils,.nils]⟩,some ⟨1,.of [.int .i64 (.lit 0),.nils,.nils]⟩])=(
  (decide (((i:Int):Int)<(L:Int))=true→decide ((0:Int)≤(i:Int))=true∧decide (((i:Int):Int)<(L:Int))=true∧leB (i+1) (List.length ow)=true∧Q .normal [.slice true (.rw 2) 0 L,.ptr (.rw 3) 0,.ptr (.rw 4) 0,.ptr (.rw 5) 0,.int .i64 (IntKind.wrap .i64 ((i:Int)+1))] [none,some ⟨1,([.int .u8 119]:List AV)⟩,some ⟨1,(G3 ow i (.int .u8 102))⟩,some ⟨1,([.int .i64 0,.nils,.nils]:List AV)⟩,some ⟨1,([.int .i64 0,.nils,.nils]:List AV)⟩,some ⟨1,([.int .i64 0,.nils,.nils]:List AV)⟩])∧(decide (((i:Int):Int)<(L:Int))=false→Q (.exit 0) [.slice true (.rw 2) 0 L,.ptr (.rw 3) 0,.ptr (.rw 4) 0,.ptr (.rw 5) 0,.int .i64 ((i:Int))] [none,some ⟨1,([.int .u8 119]:List AV)⟩,some ⟨1,ow⟩,some ⟨1,([.int .i64 0,.nils,.nils]:List AV)⟩,some ⟨1,([.int .i64 0,.nils,.nils]:List AV)⟩,some ⟨1,([.int .i64 0,.nils,.nils]:List AV)⟩])):=by kernel_rfl
theorem rn_2 (q1:List AV→Bool) (ow:List AV) (Q:Ex→List AV→Hp→Prop) (R:AV→Hp→Prop):vT G Q R (H4 (Dc Try.prog [] [] [D4 2577 q1 4 106 [4,6,8,11,12] (.one (.exit 4) [] [])] 0) 300 20 6 (A5 Try.f8 1) 106 [4,6,8,11] [.ptr (.rw 3) (.lit 0),.ptr (.rw 4) (.lit 0),.ptr (.rw 5) (.lit 0),.int .i64 (.lit 0)] [none,some ⟨1,.of [.int .u8 (.lit 119)]⟩,some ⟨1,.var 12 ow⟩,some ⟨1,.of [.int .i64 (.lit 0),.nils,.nils]⟩,some ⟨1,.of [.int .i64 (.lit 0),.nils,.nils]⟩,some ⟨1,.of [.int .i64 (.lit 0),.nils,.nils]⟩])=(
  Q (.exit 2) [.ptr (.rw 3) 0,.ptr (.rw 4) 0,.ptr (.rw 5) 0,.int .i64 0] [none,some ⟨1,([.int .u8 119]:List AV)⟩,some ⟨1,ow⟩,some ⟨1,([.int .i64 0,.nils,.nils]:List AV)⟩,some ⟨1,([.int .i64 0,.nils,.nils]:List AV)⟩,some ⟨1,([.int .i64 0,.nils,.nils]:List AV)⟩]):=by kernel_rfl
theorem ry_0 (ks kp n m:Nat) (s:Int) (ow sc sc2 pl dl di:List AV) (L i:Nat) (Q:Ex→List AV→Hp→Prop) (R:AV→Hp→Prop):vT G Q R (H4 (Dc Try.prog [] [] [] 0) 300 20 26 (A5 Try.f8 0) 106 [3,4,6,8,10] [.slice true (.rw 2) (.lit 0) (.var 5 L),.ptr (.rw 13) (.lit 0),.ptr (.rw 24) (.lit 0),.ptr (.rw 25) (.lit 0),.int .i64 (.ofN (.var 8 i))] (none :: some ⟨1,.of [.int .u8 (.lit 119)]⟩ :: some ⟨1,.var 12 ow⟩ :: some ⟨4,.var 21 sc⟩ :: some ⟨2,.var 7 pl⟩ :: U7 (.var 23 di) (some ⟨1,.of [.int .i64 (.var 1 s),.slice true (.rw 3) (.lit 0) (.var 3 n),.slice true (.rw 4) (.lit 0) (.var 4 m)]⟩ :: some ⟨4,.var 31 sc2⟩ :: some ⟨2,.var 7 pl⟩ :: U7 (.var 22 dl) [some ⟨1,.of [.int .i64 (.var 1 s),.slice true (.rw 14) (.lit 0) (.var 3 n),.slice true (.rw 15) (.lit 0) (.var 4 m)]⟩, some ⟨1,.of [.int .i64 (.var 1 s),.slice true (.ro (.var 24 ks)) (.lit 0) (.var 3 n),.slice true (.ro (.var 25 kp)) (.lit 0) (.var 4 m)]⟩])))=(
  (decide (((i:Int):Int)<(L:Int))=true→decide ((0:Int)≤(i:Int))=true∧decide (((i:Int):Int)<(L:Int))=true∧leB (i+1) (List.length ow)=true∧Q .normal [.slice true (.rw 2) 0 L,.ptr (.rw 13) 0,.ptr (.rw 24) 0,.ptr (.rw 25) 0,.int .i64 (IntKind.wrap .i64 ((i:Int)+1))] [none,some ⟨1,([.int .u8 119]:List AV)⟩,some ⟨1,(G3 ow i (.int .u8 102))⟩,some ⟨4,sc⟩,some ⟨2,pl⟩,some ⟨1,(B1 di 0)⟩,some ⟨1,(B1 di 1)⟩,some ⟨1,(B1 di 2)⟩,some ⟨1,(B1 di 3)⟩,some ⟨1,(B1 di 4)⟩,some ⟨1,(B1 di 5)⟩,some ⟨1,(B1 di 6)⟩,some ⟨1,(B1 di 7)⟩,some ⟨1,([.int .i64 s,.slice true (.rw 3) 0 n,.slice true (.rw 4) 0 m]:List AV)⟩,some ⟨4,sc2⟩,some ⟨2,pl⟩,some ⟨1,(B1 dl 0)⟩,some ⟨1,(B1 dl 1)⟩,some ⟨1,(B1 dl 2)⟩,some ⟨1,(B1 dl 3)⟩,some ⟨1,(B1 dl 4)⟩,some ⟨1,(B1 dl 5)⟩,some ⟨1,(B1 dl 6)⟩,some ⟨1,(B1 dl 7)⟩,some ⟨1,([.int .i64 s,.slice true (.rw 14) 0 n,.slice true (.rw 15) 0 m]:List AV)⟩,some ⟨1,([.int .i64 s,.slice true (.ro ks) 0 n,.slice true (.ro kp) 0 m]:List AV)⟩])∧(decide (((i:Int):Int)<(L:Int))=false→
 Q (.exit 0) [.slice true (.rw 2) 0 L,.ptr (.rw 13) 0,.ptr (.rw 24) 0,.ptr (.rw 25) 0,.int .i64 ((i:Int))] [none,some ⟨1,([.int .u8 119]:List AV)⟩,some ⟨1,ow⟩,some ⟨4,sc⟩,some ⟨2,pl⟩,some ⟨1,(B1 di 0)⟩,some ⟨1,(B1 di 1)⟩,some ⟨1,(B1 di 2)⟩,some ⟨1,(B1 di 3)⟩,some ⟨1,(B1 di 4)⟩,some ⟨1,(B1 di 5)⟩,some ⟨1,(B1 di 6)⟩,some ⟨1,(B1 di 7)⟩,some ⟨1,([.int .i64 s,.slice true (.rw 3) 0 n,.slice true (.rw 4) 0 m]:List AV)⟩,some ⟨4,sc2⟩,some ⟨2,pl⟩,some ⟨1,(B1 dl 0)⟩,some ⟨1,(B1 dl 1)⟩,some ⟨1,(B1 dl 2)⟩,some ⟨1,(B1 dl 3)⟩,some ⟨1,(B1 dl 4)⟩,some ⟨1,(B1 dl 5)⟩,some ⟨1,(B1 dl 6)⟩,some ⟨1,(B1 dl 7)⟩,some ⟨1,([.int .i64 s,.slice true (.rw 14) 0 n,.slice true (.rw 15) 0 m]:List AV)⟩,some ⟨1,([.int .i64 s,.slice true (.ro ks) 0 n,.slice true (.ro kp) 0 m]:List AV)⟩])):=by kernel_rfl
theorem ry_4 (ks kp n m:Nat) (s:Int) (ow sc sc2 pl dl di:List AV) (i q:Nat) (Q:Ex→List AV→Hp→Prop) (R:AV→Hp→Prop):vT G Q R (H4 (Df Try.prog [(37,5,8)] [] [] [] 26) 300 20 26 (A5 Try.f8 2) 106 [4,6,8,11,12] [.ptr (.rw 13) (.lit 0),.ptr (.rw 24) (.lit 0),.ptr (.rw 25) (.lit 0),.int .i64 (.ofN (.var 8 i)),.int .i64 (.ofN (.var 9 q))] (none :: some ⟨1,.of [.int .u8 (.lit 119)]⟩ :: some ⟨1,.var 12 ow⟩ :: some ⟨4,.var 21 sc⟩ :: some ⟨2,.var 7 pl⟩ :: U7 (.var 23 di) (some ⟨1,.of [.int .i64 (.var 1 s),.slice true (.rw 3) (.lit 0) (.var 3 n),.slice true (.rw 4) (.lit 0) (.var 4 m)]⟩ :: some ⟨4,.var 31 sc2⟩ :: some ⟨2,.var 7 pl⟩ :: U7 (.var 22 dl) [some ⟨1,.of [.int .i64 (.var 1 s),.slice true (.rw 14) (.lit 0) (.var 3 n),.slice true (.rw 15) (.lit 0) (.var 4 m)]⟩, some ⟨1,.of [.int .i64 (.var 1 s),.slice true (.ro (.var 24 ks)) (.lit 0) (.var 3 n),.slice true (.ro (.var 25 kp)) (.lit 0) (.var 4 m)]⟩])))=(
  decide ((0:Int)≤(i:Int))=true∧decide (((i:Int):Int)<(n:Int))=true∧Zf 5 8 sc (i*4+2)=true∧(decide (((q:Int):Int)<((bN sc (i*4+2):Nat):Int))=true→decide ((0:Int)≤(i:Int))=true∧decide (((i:Int):Int)<(n:Int))=true∧Zf 5 8 sc (i*4+2)=true∧decide ((0:Int)≤(q:Int))=true∧decide (((q:Int):Int)<((bN sc (i*4+2):Nat):Int))=true∧leB (Y0 5 sc (i*4+2)+1) 8=true∧Qx di [.agg di,.agg di,.agg di,.agg di,.agg di,.agg di,.agg di,.agg di]=true∧leB (Y0 5 sc (i*4+2)+1) (List.length di)=true∧leB (q+Hj sc (i*4+2)+1) (List.length (B1 di (Y0 5 sc (i*4+2))))=true∧
 Q .normal [.ptr (.rw 13) 0,.ptr (.rw 24) 0,.ptr (.rw 25) 0,.int .i64 ((i:Int)),.int .i64 (IntKind.wrap .i64 ((q:Int)+1))] [none,some ⟨1,([.int .u8 119]:List AV)⟩,some ⟨1,ow⟩,some ⟨4,sc⟩,some ⟨2,pl⟩,some ⟨1,(B1 (Dz di (Y0 5 sc (i*4+2)) (G3 (B1 di (Y0 5 sc (i*4+2))) (q+Hj sc (i*4+2)) (.int .u8 102))) 0)⟩,some ⟨1,(B1 (Dz di (Y0 5 sc (i*4+2)) (G3 (B1 di (Y0 5 sc (i*4+2))) (q+Hj sc (i*4+2)) (.int .u8 102))) 1)⟩,some ⟨1,(B1 (Dz di (Y0 5 sc (i*4+2)) (G3 (B1 di (Y0 5 sc (i*4+2))) (q+Hj sc (i*4+2)) (.int .u8 102))) 2)⟩,some ⟨1,(B1 (Dz di (Y0 5 sc (i*4+2)) (G3 (B1 di (Y0 5 sc (i*4+2))) (q+Hj sc (i*4+2)) (.int .u8 102))) 3)⟩,some ⟨1,(B1 (Dz di (Y0 5 sc (i*4+2)) (G3 (B1 di (Y0 5 sc (i*4+2))) (q+Hj sc (i*4+2)) (.int .u8 102))) 4)⟩,some ⟨1,(B1 (Dz di (Y0 5 sc (i*4+2)) (G3 (B1 di (Y0 5 sc (i*4+2))) (q+Hj sc (i*4+2)) (.int .u8 102))) 5)⟩,some ⟨1,(B1 (Dz di (Y0 5 sc (i*4+2)) (G3 (B1 di (Y0 5 sc (i*4+2))) (q+Hj sc (i*4+2)) (.int .u8 102))) 6)⟩,some ⟨1,(B1 (Dz di (Y0 5 sc (i*4+2)) (G3 (B1 di (Y0 5 sc (i*4+2))) (q+Hj sc (i*4+2)) (.int .u8 102))) 7)⟩,some ⟨1,([.int .i64 s,.slice true (.rw 3) 0 n,.slice true (.rw 4) 0 m]:List AV)⟩,some ⟨4,sc2⟩,some ⟨2,pl⟩,some ⟨1,(B1 dl 0)⟩,some ⟨1,(B1 dl 1)⟩,some ⟨1,(B1 dl 2)⟩,some ⟨1,(B1 dl 3)⟩,some ⟨1,(B1 dl 4)⟩,some ⟨1,(B1 dl 5)⟩,some ⟨1,(B1 dl 6)⟩,some ⟨1,(B1 dl 7)⟩,some ⟨1,([.int .i64 s,.slice true (.rw 14) 0 n,.slice true (.rw 15) 0 m]:List AV)⟩,some ⟨1,([.int .i64 s,.slice true (.ro ks) 0 n,.slice true (.ro kp) 0 m]:List AV)⟩])∧
 (decide (((q:Int):Int)<((bN sc (i*4+2):Nat):Int))=false→Q (.exit 4) [.ptr (.rw 13) 0,.ptr (.rw 24) 0,.ptr (.rw 25) 0,.int .i64 ((i:Int)),.int .i64 ((q:Int))] [none,some ⟨1,([.int .u8 119]:List AV)⟩,some ⟨1,ow⟩,some ⟨4,sc⟩,some ⟨2,pl⟩,some ⟨1,(B1 di 0)⟩,some ⟨1,(B1 di 1)⟩,some ⟨1,(B1 di 2)⟩,some ⟨1,(B1 di 3)⟩,some ⟨1,(B1 di 4)⟩,some ⟨1,(B1 di 5)⟩,some ⟨1,(B1 di 6)⟩,some ⟨1,(B1 di 7)⟩,some ⟨1,([.int .i64 s,.slice true (.rw 3) 0 n,.slice true (.rw 4) 0 m]:List AV)⟩,some ⟨4,sc2⟩,some ⟨2,pl⟩,some ⟨1,(B1 dl 0)⟩,some ⟨1,(B1 dl 1)⟩,some ⟨1,(B1 dl 2)⟩,some ⟨1,(B1 dl 3)⟩,some ⟨1,(B1 dl 4)⟩,some ⟨1,(B1 dl 5)⟩,some ⟨1,(B1 dl 6)⟩,some ⟨1,(B1 dl 7)⟩,some ⟨1,([.int .i64 s,.slice true (.rw 14) 0 n,.slice true (.rw 15) 0 m]:List AV)⟩,some ⟨1,([.int .i64 s,.slice true (.ro ks) 0 n,.slice true (.ro kp) 0 m]:List AV)⟩])):=by kernel_rfl
theorem ry_2 (ks kp n m:Nat) (s:Int) (ow sc sc2 pl dl di:List AV) (q1:List AV→Bool) (dk:List AV) (i:Nat) (Q:Ex→List AV→Hp→Prop) (R:AV→Hp→Prop):vT G Q R (H4 (Df Try.prog [(37,5,8)] [] [] [D4 2577 q1 4 106 [4,6,8,11,12] (.one (.exit 4) [.ptr (.rw 13) (.lit 0),.ptr (.rw 24) (.lit 0),.ptr (.rw 25) (.lit 0),.int .i64 (.ofN (.var 8 i)),.undef] (none :: some ⟨1,.of [.int .u8 (.lit 119)]⟩ :: some ⟨1,.var 12 ow⟩ :: some ⟨4,.var 21 sc⟩ :: some ⟨2,.var 7 pl⟩ :: U7 (.var 33 dk) (some ⟨1,.of [.int .i64 (.var 1 s),.slice true (.rw 3) (.lit 0) (.var 3 n),.slice true (.rw 4) (.lit 0) (.var 4 m)]⟩ :: some ⟨4,.var 31 sc2⟩ :: some ⟨2,.var 7 pl⟩ :: U7 (.var 22 dl) [some ⟨1,.of [.int .i64 (.var 1 s),.slice true (.rw 14) (.lit 0) (.var 3 n),.slice true (.rw 15) (.lit 0) (.var 4 m)]⟩, some ⟨1,.of [.int .i64 (.var 1 s),.slice true (.ro (.var 24 ks)) (.lit 0) (.var 3 n),.slice true (.ro (.var 25 kp)) (.lit 0) (.var 4 m)]⟩])))] 26) 300 20 26 (A5 Try.f8 1) 106 [4,6,8,11] [.ptr (.rw 13) (.lit 0),.ptr (.rw 24) (.lit 0),.ptr (.rw 25) (.lit 0),.int .i64 (.ofN (.var 8 i))] (none :: some ⟨1,.of [.int .u8 (.lit 119)]⟩ :: some ⟨1,.var 12 ow⟩ :: some ⟨4,.var 21 sc⟩ :: some ⟨2,.var 7 pl⟩ :: U7 (.var 23 di) (some ⟨1,.of [.int .i64 (.var 1 s),.slice true (.rw 3) (.lit 0) (.var 3 n),.slice true (.rw 4) (.lit 0) (.var 4 m)]⟩ :: some ⟨4,.var 31 sc2⟩ :: some ⟨2,.var 7 pl⟩ :: U7 (.var 22 dl) [some ⟨1,.of [.int .i64 (.var 1 s),.slice true (.rw 14) (.lit 0) (.var 3 n),.slice true (.rw 15) (.lit 0) (.var 4 m)]⟩, some ⟨1,.of [.int .i64 (.var 1 s),.slice true (.ro (.var 24 ks)) (.lit 0) (.var 3 n),.slice true (.ro (.var 25 kp)) (.lit 0) (.var 4 m)]⟩])))=(
  (decide (((i:Int):Int)<(n:Int))=true→q1 [.agg ([.ptr (.rw 13) 0,.ptr (.rw 24) 0,.ptr (.rw 25) 0,.int .i64 ((i:Int)),.int .i64 0]:List AV),.agg ((.undef :: .tup [.int .i64 1,.agg ([.int .u8 119]:List AV)] :: .tup [.int .i64 1,.agg ow] :: .tup [.int .i64 4,.agg sc] :: .tup [.int .i64 2,.agg pl] :: Sn di (.tup [.int .i64 1,.agg ([.int .i64 s,.slice true (.rw 3) 0 n,.slice true (.rw 4) 0 m]:List AV)] :: .tup [.int .i64 4,.agg sc2] :: .tup [.int .i64 2,.agg pl] :: Sn dl [.tup [.int .i64 1,.agg ([.int .i64 s,.slice true (.rw 14) 0 n,.slice true (.rw 15) 0 m]:List AV)], .tup [.int .i64 1,.agg ([.int .i64 s,.slice true (.ro ks) 0 n,.slice true (.ro kp) 0 m]:List AV)]])):List AV)]=true∧decide ((0:Int)≤(i:Int))=true∧decide (((i:Int):Int)<(n:Int))=true∧leB (i*4+4) (List.length sc)=true∧
 Q .normal [.ptr (.rw 13) 0,.ptr (.rw 24) 0,.ptr (.rw 25) 0,.int .i64 (IntKind.wrap .i64 ((i:Int)+1))] [none,some ⟨1,([.int .u8 119]:List AV)⟩,some ⟨1,ow⟩,some ⟨4,(G3 sc (i*4) (.agg ([.int .i64 0,.int .i64 0,.nils,.int .i64 0]:List AV)))⟩,some ⟨2,pl⟩,some ⟨1,(B1 dk 0)⟩,some ⟨1,(B1 dk 1)⟩,some ⟨1,(B1 dk 2)⟩,some ⟨1,(B1 dk 3)⟩,some ⟨1,(B1 dk 4)⟩,some ⟨1,(B1 dk 5)⟩,some ⟨1,(B1 dk 6)⟩,some ⟨1,(B1 dk 7)⟩,some ⟨1,([.int .i64 s,.slice true (.rw 3) 0 n,.slice true (.rw 4) 0 m]:List AV)⟩,some ⟨4,sc2⟩,some ⟨2,pl⟩,some ⟨1,(B1 dl 0)⟩,some ⟨1,(B1 dl 1)⟩,some ⟨1,(B1 dl 2)⟩,some ⟨1,(B1 dl 3)⟩,some ⟨1,(B1 dl 4)⟩,some ⟨1,(B1 dl 5)⟩,some ⟨1,(B1 dl 6)⟩,some ⟨1,(B1 dl 7)⟩,some ⟨1,([.int .i64 s,.slice true (.rw 14) 0 n,.slice true (.rw 15) 0 m]:List AV)⟩,some ⟨1,([.int .i64 s,.slice true (.ro ks) 0 n,.slice true (.ro kp) 0 m]:List AV)⟩])∧(decide (((i:Int):Int)<(n:Int))=false→
 Q (.exit 2) [.ptr (.rw 13) 0,.ptr (.rw 24) 0,.ptr (.rw 25) 0,.int .i64 ((i:Int))] [none,some ⟨1,([.int .u8 119]:List AV)⟩,some ⟨1,ow⟩,some ⟨4,sc⟩,some ⟨2,pl⟩,some ⟨1,(B1 di 0)⟩,some ⟨1,(B1 di 1)⟩,some ⟨1,(B1 di 2)⟩,some ⟨1,(B1 di 3)⟩,some ⟨1,(B1 di 4)⟩,some ⟨1,(B1 di 5)⟩,some ⟨1,(B1 di 6)⟩,some ⟨1,(B1 di 7)⟩,some ⟨1,([.int .i64 s,.slice true (.rw 3) 0 n,.slice true (.rw 4) 0 m]:List AV)⟩,some ⟨4,sc2⟩,some ⟨2,pl⟩,some ⟨1,(B1 dl 0)⟩,some ⟨1,(B1 dl 1)⟩,some ⟨1,(B1 dl 2)⟩,some ⟨1,(B1 dl 3)⟩,some ⟨1,(B1 dl 4)⟩,some ⟨1,(B1 dl 5)⟩,some ⟨1,(B1 dl 6)⟩,some ⟨1,(B1 dl 7)⟩,some ⟨1,([.int .i64 s,.slice true (.rw 14) 0 n,.slice true (.rw 15) 0 m]:List AV)⟩,some ⟨1,([.int .i64 s,.slice true (.ro ks) 0 n,.slice true (.ro kp) 0 m]:List AV)⟩])):=by kernel_rfl
end
section
variable (G:Nat→List AV) (B:Nat)
def Dw (l:List AV):Nat→List AV
 | 0=>l
 | k+1=>G3 (Dw l k) k (.int .u8 102)
theorem dV {l:List AV}:∀ k,(Dw l k).length=l.length
 | 0=>rfl
 | k+1=>by
  show (G3 (Dw l k) k (.int .u8 102)).length=_;rw [Lw (by simp),List.length_set,dV k]
def Lz (l:List AV):Nat→List AV
 | 0=>l
 | k+1=>G3 (Lz l k) (k*4) (.agg [.int .i64 0,.int .i64 0,.nils,.int .i64 0])
theorem yB {l:List AV} {n:Nat} (hl:l.length=n*4):∀ k,k≤n→(Lz l k).length=n*4∧∀ j,k*4≤j→(Lz l k)[j]?=l[j]?
 | 0,_=>⟨hl,fun _ _=>rfl⟩
 | k+1,hk=>by
  obtain ⟨h1,h2⟩:=yB hl k (by omega)
  have h4:k*4+O3 (.agg [.int .i64 0,.int .i64 0,.nils,.int .i64 0])≤(Lz l k).length:=by
   show k*4+4≤_;rw [h1];omega
  refine ⟨(Dt _ _ _ h4).trans h1,fun j hj=>?_⟩;refine (Oo _ _ _ h4 j).trans ?_;rw [if_neg (by show ¬(k*4≤j∧j<k*4+4);omega)];exact h2 j (by omega)
def Nq (l:List Nat):Nat→List Nat
 | 0=>l
 | q+1=>(Nq l q).set q 102
theorem rM {l:List Nat}:∀ q,(Nq l q).length=l.length
 | 0=>rfl
 | q+1=>by rw [Nq,List.length_set,rM q]
def Vi (D:Nat→List Nat) (w:Nat→Nat):Nat→Nat→List Nat
 | 0=>D
 | k+1=>updD (Vi D w k) k (Nq (Vi D w k k) (w k))
theorem aC0 {D:Nat→List Nat} {w:Nat→Nat}:∀ {k j:Nat},k≤j→Vi D w k j=D j
 | 0,_,_=>rfl
 | k+1,j,h=>by
  show updD (Vi D w k) k _ j=_;unfold updD;rw [if_neg (by omega)];exact aC0 (by omega)
def Yd (ow:List AV):Hp:=[none,some ⟨1,[.int .u8 119]⟩,some ⟨1,ow⟩,some ⟨1,[.int .i64 0,.nils,.nils]⟩,some ⟨1,[.int .i64 0,.nils,.nils]⟩,some ⟨1,[.int .i64 0,.nils,.nils]⟩]
def J3 (s:Int) (a b:Ref) (n m:Nat):List AV:=[.int .i64 s,.slice true a 0 n,.slice true b 0 m]
def Gy (ow sc pl di bi sc2 dl bj bw:List AV):Hp:=[none,some ⟨1,[.int .u8 119]⟩,some ⟨1,ow⟩,some ⟨4,sc⟩,some ⟨2,pl⟩]++(N0 di++([some ⟨1,bi⟩,some ⟨4,sc2⟩,some ⟨2,pl⟩]++(N0 dl++[some ⟨1,bj⟩,some ⟨1,bw⟩])))
theorem rn_lp0 (l:List AV) (L:Nat) (hl:l.length=L) (hL:L≤1000001):AWp (za G B) 6 (.loop (A5 Try.f8 0)) (fl 106 [3,4,6,8,10] [.slice true (.rw 2) 0 L,.ptr (.rw 3) 0,.ptr (.rw 4) 0,.ptr (.rw 5) 0,.int .i64 0]) (Yd l) (lv 106 [3,4,6,8,10] fun e vs H=>e=.exit 0∧wk [.undef,.ptr (.rw 3) 0,.ptr (.rw 4) 0,.ptr (.rw 5) 0,.undef] vs∧H=Yd (Dw l L)):=by
 refine W8 L (fun k=>[.slice true (.rw 2) 0 L,.ptr (.rw 3) 0,.ptr (.rw 4) 0,.ptr (.rw 5) 0,.int .i64 (k:Int)]) (fun k=>Yd (Dw l k)) fun k hk=>?_
 refine D3 (C:=(za G B)) (K:=Dc Try.prog [] [] [] 0) (by rw [show loopsOf (A5 Try.f8 0)=[] by kernel_rfl];exact C7 (mix G B) (by kernel_rfl) .nil .nil) (fuel:=300) (n0:=20) (m:=6) (c:=A5 Try.f8 0) (vs:=[.slice true (.rw 2) (.lit 0) (.var 5 L),.ptr (.rw 3) (.lit 0),.ptr (.rw 4) (.lit 0),.ptr (.rw 5) (.lit 0),.int .i64 (.ofN (.var 8 k))]) (H:=[none,some ⟨1,.of [.int .u8 (.lit 119)]⟩,some ⟨1,.var 12 (Dw l k)⟩,some ⟨1,.of [.int .i64 (.lit 0),.nils,.nils]⟩,some ⟨1,.of [.int .i64 (.lit 0),.nils,.nils]⟩,some ⟨1,.of [.int .i64 (.lit 0),.nils,.nils]⟩]) (zA7 _) ?_
 rw [rn_0];refine ⟨fun h1=>?_,fun h1=>?_⟩
 ·have hq:k<L:=by have:=zR h1;omega
  rw [B5 (n:=(k:Int)+1) (by omega)];exact ⟨yI (by omega),h1,A8.2 (by rw [dV];omega),hq,.inl ⟨rfl,rfl⟩⟩
 ·have:k=L:=by have:=sJ h1;omega
  subst this;exact ⟨rfl,by simp [wk],rfl⟩
theorem rP {C:A1} {M:Nat} {c:Code} {j ex N:Nat} {live:List Nat} {o:LOut}:F5 C M c (D4 j (fun _=>false) ex N live o):=by
 refine .of fun vs H o' ho n Q hQ=>?_;simp only [D4,zN] at ho;subst ho;exact absurd hQ.1 (by simp [vB])
theorem rn_lp2 (l:List AV):AWp (za G B) 6 (.loop (A5 Try.f8 1)) (fl 106 [4,6,8,11] [.ptr (.rw 3) 0,.ptr (.rw 4) 0,.ptr (.rw 5) 0,.int .i64 0]) (Yd l) (lv 106 [4,6,8,11] fun e vs H=>e=.exit 2∧wk [.undef,.ptr (.rw 4) 0,.ptr (.rw 5) 0,.undef] vs∧H=Yd l):=by
 refine W8 0 (fun k=>[.ptr (.rw 3) 0,.ptr (.rw 4) 0,.ptr (.rw 5) 0,.int .i64 (k:Int)]) (fun k=>Yd l) fun k hk=>?_;obtain rfl:k=0:=by omega
 refine D3 (C:=(za G B)) (K:=Dc Try.prog [] [] [D4 2577 (fun _=>false) 4 106 [4,6,8,11,12] (.one (.exit 4) [] [])] 0) (by rw [show loopsOf (A5 Try.f8 1)=[A5 Try.f8 2] by kernel_rfl];exact C7 (mix G B) (by kernel_rfl) .nil (.cons (i:=4) (by kernel_rfl) rfl rP .nil)) (fuel:=300) (n0:=20) (m:=6) (c:=A5 Try.f8 1) (vs:=[.ptr (.rw 3) (.lit 0),.ptr (.rw 4) (.lit 0),.ptr (.rw 5) (.lit 0),.int .i64 (.lit 0)]) (H:=[none,some ⟨1,.of [.int .u8 (.lit 119)]⟩,some ⟨1,.var 12 l⟩,some ⟨1,.of [.int .i64 (.lit 0),.nils,.nils]⟩,some ⟨1,.of [.int .i64 (.lit 0),.nils,.nils]⟩,some ⟨1,.of [.int .i64 (.lit 0),.nils,.nils]⟩]) (zA7 _) ?_
 rw [rn_2];exact ⟨rfl,by simp [wk],rfl⟩
theorem ry_lp0 (ks kp n m:Nat) (s:Int) (sc sc2 pl dl:List AV) (di:List AV) (l:List AV) (L:Nat) (hl:l.length=L) (hL:L≤1000001):AWp (za G B) 26 (.loop (A5 Try.f8 0)) (fl 106 [3,4,6,8,10] [.slice true (.rw 2) 0 L,.ptr (.rw 13) 0,.ptr (.rw 24) 0,.ptr (.rw 25) 0,.int .i64 0]) (Gy l sc pl di (J3 s (.rw 3) (.rw 4) n m) sc2 dl (J3 s (.rw 14) (.rw 15) n m) (J3 s (.ro ks) (.ro kp) n m)) (lv 106 [3,4,6,8,10] fun e vs H=>e=.exit 0∧wk [.undef,.ptr (.rw 13) 0,.ptr (.rw 24) 0,.ptr (.rw 25) 0,.undef] vs∧H=Gy (Dw l L) sc pl di (J3 s (.rw 3) (.rw 4) n m) sc2 dl (J3 s (.rw 14) (.rw 15) n m) (J3 s (.ro ks) (.ro kp) n m)):=by
 refine W8 L (fun k=>[.slice true (.rw 2) 0 L,.ptr (.rw 13) 0,.ptr (.rw 24) 0,.ptr (.rw 25) 0,.int .i64 (k:Int)]) (fun k=>Gy (Dw l k) sc pl di (J3 s (.rw 3) (.rw 4) n m) sc2 dl (J3 s (.rw 14) (.rw 15) n m) (J3 s (.ro ks) (.ro kp) n m)) fun k hk=>?_
 refine D3 (C:=(za G B)) (K:=Dc Try.prog [] [] [] 0) (by rw [show loopsOf (A5 Try.f8 0)=[] by kernel_rfl];exact C7 (mix G B) (by kernel_rfl) .nil .nil) (fuel:=300) (n0:=20) (m:=26) (c:=A5 Try.f8 0) (vs:=[.slice true (.rw 2) (.lit 0) (.var 5 L),.ptr (.rw 13) (.lit 0),.ptr (.rw 24) (.lit 0),.ptr (.rw 25) (.lit 0),.int .i64 (.ofN (.var 8 k))]) (H:=(none :: some ⟨1,.of [.int .u8 (.lit 119)]⟩ :: some ⟨1,.var 12 (Dw l k)⟩ :: some ⟨4,.var 21 sc⟩ :: some ⟨2,.var 7 pl⟩ :: U7 (.var 23 di) (some ⟨1,.of [.int .i64 (.var 1 s),.slice true (.rw 3) (.lit 0) (.var 3 n),.slice true (.rw 4) (.lit 0) (.var 4 m)]⟩ :: some ⟨4,.var 31 sc2⟩ :: some ⟨2,.var 7 pl⟩ :: U7 (.var 22 dl) [some ⟨1,.of [.int .i64 (.var 1 s),.slice true (.rw 14) (.lit 0) (.var 3 n),.slice true (.rw 15) (.lit 0) (.var 4 m)]⟩, some ⟨1,.of [.int .i64 (.var 1 s),.slice true (.ro (.var 24 ks)) (.lit 0) (.var 3 n),.slice true (.ro (.var 25 kp)) (.lit 0) (.var 4 m)]⟩]))) (zA7 _) ?_
 rw [ry_0];refine ⟨fun h1=>?_,fun h1=>?_⟩
 ·have hq:k<L:=by have:=zR h1;omega
  rw [B5 (n:=(k:Int)+1) (by omega)];exact ⟨yI (by omega),h1,A8.2 (by rw [dV];omega),hq,.inl ⟨rfl,rfl⟩⟩
 ·have:k=L:=by have:=sJ h1;omega
  subst this;exact ⟨rfl,by simp [wk],rfl⟩
theorem ry_lp4 (ks kp n m:Nat) (s:Int) (sc sc2 pl dl:List AV) (ow:List AV) (D:Nat→List Nat) (i w:Nat) (hi:i<n) (h8:n≤8) (hc:sc[i*4+2]?=some (.slice true (.rw (5+i)) 0 w)) (hw:(D i).length=w) (hw':w≤1000000):AWp (za G B) 26 (.loop (A5 Try.f8 2)) (fl 106 [4,6,8,11,12] [.ptr (.rw 13) 0,.ptr (.rw 24) 0,.ptr (.rw 25) 0,.int .i64 (i:Int),.int .i64 0]) (Gy ow sc pl (J6 D) (J3 s (.rw 3) (.rw 4) n m) sc2 dl (J3 s (.rw 14) (.rw 15) n m) (J3 s (.ro ks) (.ro kp) n m)) (lv 106 [4,6,8,11,12] fun e vs H=>e=.exit 4∧wk [.ptr (.rw 13) 0,.ptr (.rw 24) 0,.ptr (.rw 25) 0,.int .i64 (i:Int),.undef] vs∧H=Gy ow sc pl (J6 (updD D i (Nq (D i) w))) (J3 s (.rw 3) (.rw 4) n m) sc2 dl (J3 s (.rw 14) (.rw 15) n m) (J3 s (.ro ks) (.ro kp) n m)):=by
 have e0:Gy ow sc pl (J6 D) (J3 s (.rw 3) (.rw 4) n m) sc2 dl (J3 s (.rw 14) (.rw 15) n m) (J3 s (.ro ks) (.ro kp) n m)=Gy ow sc pl (J6 (updD D i (Nq (D i) 0))) (J3 s (.rw 3) (.rw 4) n m) sc2 dl (J3 s (.rw 14) (.rw 15) n m) (J3 s (.ro ks) (.ro kp) n m):=by rw [Nq,xE]
 rw [e0];refine W8 w (fun q=>[.ptr (.rw 13) 0,.ptr (.rw 24) 0,.ptr (.rw 25) 0,.int .i64 (i:Int),.int .i64 (q:Int)]) (fun q=>Gy ow sc pl (J6 (updD D i (Nq (D i) q))) (J3 s (.rw 3) (.rw 4) n m) sc2 dl (J3 s (.rw 14) (.rw 15) n m) (J3 s (.ro ks) (.ro kp) n m)) fun q hq=>?_;generalize hE:updD D i (Nq (D i) q)=E;have hEi:E i=Nq (D i) q:=by rw [←hE];exact qB
 refine D3 (C:=(za G B)) (K:=Df Try.prog [(37,5,8)] [] [] [] 26) (by rw [show loopsOf (A5 Try.f8 2)=[] by kernel_rfl];exact aB8 (Bc G B) (by kernel_rfl) .nil .nil) (fuel:=300) (n0:=20) (m:=26) (c:=A5 Try.f8 2) (vs:=[.ptr (.rw 13) (.lit 0),.ptr (.rw 24) (.lit 0),.ptr (.rw 25) (.lit 0),.int .i64 (.ofN (.var 8 i)),.int .i64 (.ofN (.var 9 q))]) (H:=(none :: some ⟨1,.of [.int .u8 (.lit 119)]⟩ :: some ⟨1,.var 12 ow⟩ :: some ⟨4,.var 21 sc⟩ :: some ⟨2,.var 7 pl⟩ :: U7 (.var 23 (J6 E)) (some ⟨1,.of [.int .i64 (.var 1 s),.slice true (.rw 3) (.lit 0) (.var 3 n),.slice true (.rw 4) (.lit 0) (.var 4 m)]⟩ :: some ⟨4,.var 31 sc2⟩ :: some ⟨2,.var 7 pl⟩ :: U7 (.var 22 dl) [some ⟨1,.of [.int .i64 (.var 1 s),.slice true (.rw 14) (.lit 0) (.var 3 n),.slice true (.rw 15) (.lit 0) (.var 4 m)]⟩, some ⟨1,.of [.int .i64 (.var 1 s),.slice true (.ro (.var 24 ks)) (.lit 0) (.var 3 n),.slice true (.ro (.var 25 kp)) (.lit 0) (.var 4 m)]⟩]))) (zA7 _) ?_
 rw [ry_4];obtain ⟨f1,f2,f3⟩:=fn_at hc;have f4:=isF_at (c:=8) hc (by omega);rw [f1,f2,f3];refine ⟨yI (by omega),yI (by omega),f4,fun h1=>?_,fun h1=>?_⟩
 ·have hqw:q<w:=by have:=zR h1;omega
  have e2:updD E i ((E i).set q 102)=updD D i (Nq (D i) (q+1)):=by
   rw [hEi,←hE,aE9,Nq]
  have e3:G3 (B1 (J6 E) i) (q+0) (.int .u8 102)=Gd ((E i).set q 102):=by
   rw [lU (by omega),Nat.add_zero];exact bD7
  rw [e3,yN (by omega),e2,B5 (n:=(q:Int)+1) (by omega)];refine ⟨yI (by omega),yI (by omega),f4,yI (by omega),h1,A8.2 (by omega),uH,A8.2 (by rw [yO];omega),A8.2 (by rw [lU (by omega),sW,hEi,rM];omega),hqw,.inl ⟨rfl,rfl⟩⟩
 ·have:q=w:=by have:=sJ h1;omega
  subst this;exact ⟨rfl,by simp [wk],by rw [hE];rfl⟩
theorem ry_lp2 (ks kp n m:Nat) (s:Int) (sc sc2 pl dl:List AV) (ow:List AV) (D:Nat→List Nat) (w:Nat→Nat) (h8:n≤8) (hl:sc.length=n*4) (hc:∀ i,i<n→sc[i*4+2]?=some (.slice true (.rw (5+i)) 0 (w i))∧(D i).length=w i∧w i≤1000000):AWp (za G B) 26 (.loop (A5 Try.f8 1)) (fl 106 [4,6,8,11] [.ptr (.rw 13) 0,.ptr (.rw 24) 0,.ptr (.rw 25) 0,.int .i64 0]) (Gy ow sc pl (J6 D) (J3 s (.rw 3) (.rw 4) n m) sc2 dl (J3 s (.rw 14) (.rw 15) n m) (J3 s (.ro ks) (.ro kp) n m)) (lv 106 [4,6,8,11] fun e vs H=>e=.exit 2∧wk [.undef,.ptr (.rw 24) 0,.ptr (.rw 25) 0,.undef] vs∧H=Gy ow (Lz sc n) pl (J6 (Vi D w n)) (J3 s (.rw 3) (.rw 4) n m) sc2 dl (J3 s (.rw 14) (.rw 15) n m) (J3 s (.ro ks) (.ro kp) n m)):=by
 refine W8 n (fun i=>[.ptr (.rw 13) 0,.ptr (.rw 24) 0,.ptr (.rw 25) 0,.int .i64 (i:Int)]) (fun i=>Gy ow (Lz sc i) pl (J6 (Vi D w i)) (J3 s (.rw 3) (.rw 4) n m) sc2 dl (J3 s (.rw 14) (.rw 15) n m) (J3 s (.ro ks) (.ro kp) n m)) fun i hi=>?_;generalize hE:Vi D w i=E;obtain ⟨k1,k2⟩:=yB hl i hi
 have hd:∃ q,F5 (za G B) 26 (A5 Try.f8 2) (D4 2577 q 4 106 [4,6,8,11,12] (.one (.exit 4) [.ptr (.rw 13) (.lit 0),.ptr (.rw 24) (.lit 0),.ptr (.rw 25) (.lit 0),.int .i64 (.ofN (.var 8 i)),.undef] (none :: some ⟨1,.of [.int .u8 (.lit 119)]⟩ :: some ⟨1,.var 12 ow⟩ :: some ⟨4,.var 21 (Lz sc i)⟩ :: some ⟨2,.var 7 pl⟩ :: U7 (.var 33 (J6 (updD E i (Nq (E i) (w i))))) (some ⟨1,.of [.int .i64 (.var 1 s),.slice true (.rw 3) (.lit 0) (.var 3 n),.slice true (.rw 4) (.lit 0) (.var 4 m)]⟩ :: some ⟨4,.var 31 sc2⟩ :: some ⟨2,.var 7 pl⟩ :: U7 (.var 22 dl) [some ⟨1,.of [.int .i64 (.var 1 s),.slice true (.rw 14) (.lit 0) (.var 3 n),.slice true (.rw 15) (.lit 0) (.var 4 m)]⟩, some ⟨1,.of [.int .i64 (.var 1 s),.slice true (.ro (.var 24 ks)) (.lit 0) (.var 3 n),.slice true (.ro (.var 25 kp)) (.lit 0) (.var 4 m)]⟩]))))∧(i<n→q=(D9 [.ptr (.rw 13) 0,.ptr (.rw 24) 0,.ptr (.rw 25) 0,.int .i64 (i:Int),.int .i64 0] (Gy ow (Lz sc i) pl (J6 E) (J3 s (.rw 3) (.rw 4) n m) sc2 dl (J3 s (.rw 14) (.rw 15) n m) (J3 s (.ro ks) (.ro kp) n m)))):=by
  by_cases hin:i<n
  ·refine ⟨(D9 [.ptr (.rw 13) 0,.ptr (.rw 24) 0,.ptr (.rw 25) 0,.int .i64 (i:Int),.int .i64 0] (Gy ow (Lz sc i) pl (J6 E) (J3 s (.rw 3) (.rw 4) n m) sc2 dl (J3 s (.rw 14) (.rw 15) n m) (J3 s (.ro ks) (.ro kp) n m))),N7 rfl ?_,fun _=>rfl⟩;obtain ⟨c1,c2,c3⟩:=hc i hin;have hEi:E i=D i:=by rw [←hE];exact aC0 (zA7 _)
   refine (ry_lp4 G B ks kp n m s (Lz sc i) sc2 pl dl ow E i (w i) hin h8 (by rw [k2 _ (by omega)];exact c1) (by rw [hEi];exact c2) c3).lmono ?_;rintro e vs H ⟨rfl,hw,rfl⟩;exact ⟨rfl,.inl ⟨hw,rfl⟩⟩
  ·exact ⟨fun _=>false,rP,fun h=>absurd h hin⟩
 obtain ⟨q,hd,hq⟩:=hd
 refine D3 (C:=(za G B)) (K:=Df Try.prog [(37,5,8)] [] [] [D4 2577 q 4 106 [4,6,8,11,12] (.one (.exit 4) [.ptr (.rw 13) (.lit 0),.ptr (.rw 24) (.lit 0),.ptr (.rw 25) (.lit 0),.int .i64 (.ofN (.var 8 i)),.undef] (none :: some ⟨1,.of [.int .u8 (.lit 119)]⟩ :: some ⟨1,.var 12 ow⟩ :: some ⟨4,.var 21 (Lz sc i)⟩ :: some ⟨2,.var 7 pl⟩ :: U7 (.var 33 (J6 (updD E i (Nq (E i) (w i))))) (some ⟨1,.of [.int .i64 (.var 1 s),.slice true (.rw 3) (.lit 0) (.var 3 n),.slice true (.rw 4) (.lit 0) (.var 4 m)]⟩ :: some ⟨4,.var 31 sc2⟩ :: some ⟨2,.var 7 pl⟩ :: U7 (.var 22 dl) [some ⟨1,.of [.int .i64 (.var 1 s),.slice true (.rw 14) (.lit 0) (.var 3 n),.slice true (.rw 15) (.lit 0) (.var 4 m)]⟩, some ⟨1,.of [.int .i64 (.var 1 s),.slice true (.ro (.var 24 ks)) (.lit 0) (.var 3 n),.slice true (.ro (.var 25 kp)) (.lit 0) (.var 4 m)]⟩])))] 26) (by rw [show loopsOf (A5 Try.f8 1)=[A5 Try.f8 2] by kernel_rfl];exact aB8 (Bc G B) (by kernel_rfl) .nil (.cons (i:=4) (by kernel_rfl) rfl hd .nil)) (fuel:=300) (n0:=20) (m:=26) (c:=A5 Try.f8 1) (vs:=[.ptr (.rw 13) (.lit 0),.ptr (.rw 24) (.lit 0),.ptr (.rw 25) (.lit 0),.int .i64 (.ofN (.var 8 i))]) (H:=(none :: some ⟨1,.of [.int .u8 (.lit 119)]⟩ :: some ⟨1,.var 12 ow⟩ :: some ⟨4,.var 21 (Lz sc i)⟩ :: some ⟨2,.var 7 pl⟩ :: U7 (.var 23 (J6 E)) (some ⟨1,.of [.int .i64 (.var 1 s),.slice true (.rw 3) (.lit 0) (.var 3 n),.slice true (.rw 4) (.lit 0) (.var 4 m)]⟩ :: some ⟨4,.var 31 sc2⟩ :: some ⟨2,.var 7 pl⟩ :: U7 (.var 22 dl) [some ⟨1,.of [.int .i64 (.var 1 s),.slice true (.rw 14) (.lit 0) (.var 3 n),.slice true (.rw 15) (.lit 0) (.var 4 m)]⟩, some ⟨1,.of [.int .i64 (.var 1 s),.slice true (.ro (.var 24 ks)) (.lit 0) (.var 3 n),.slice true (.ro (.var 25 kp)) (.lit 0) (.var 4 m)]⟩]))) (zA7 _) ?_
 rw [ry_2];refine ⟨fun h1=>?_,fun h1=>?_⟩
 ·have hin:i<n:=by have:=zR h1;omega
  rw [hq hin,B5 (n:=(i:Int)+1) (by omega)];refine ⟨D2,yI (by omega),h1,A8.2 (by rw [k1];omega),hin,.inl ⟨rfl,?_⟩⟩;rw [Vi,hE];rfl
 ·have:i=n:=by have:=sJ h1;omega
  subst this;exact ⟨rfl,by simp [wk],by rw [hE];rfl⟩
end
def tT (cs:List AV) (n e:Nat):List AV:=G7 cs n (dK (fun j=>4+2*j+e) cs)
def tG (G:Nat→List AV) (cs ps:List AV) (n:Nat):Nat→List AV
 | 0=>tT cs n 0
 | 1=>ps
 | 2=>tT cs n 1
 | 3=>ps
 | k+4=>if k / 2<n then F7 G cs (k / 2) else []
theorem tT_ok {cs:List AV} {n e:Nat}:P2 (tT cs n e) n=true:=by
 unfold tT;rw [scU_sA];exact scU_ok
theorem jS {cs:List AV} {n e j:Nat} (hj:j<n):sA (tT cs n e) j=sA cs j∧sR (tT cs n e) j=sR cs j∧G0 (tT cs n e) (j*4+2)=4+2*j+e∧H8 (tT cs n e) (j*4+2)=0∧sN (tT cs n e) j=sN cs j∧sZ (tT cs n e) j=sZ cs j:=by
 have e_:∀ b,b<4→(tT cs n e)[j*4+b]?=some (V0 cs (dK (fun j=>4+2*j+e) cs) j b):=fun b hb=>P0 (f:=V0 cs (dK (fun j=>4+2*j+e) cs)) hj hb;have e0:=e_ 0 (by omega);rw [Nat.add_zero] at e0;obtain ⟨r1,r2,r3⟩:=uI (l:=tT cs n e) (o:=j*4+2) (k:=4+2*j+e) (f:=0) (n:=sN cs j) (mb:=true) (e_ 2 (by omega));refine ⟨?_,?_,r1,r2,r3,?_⟩
 ·unfold sA A2;rw [e0];rfl
 ·unfold sR A2;rw [e_ 1 (by omega)];rfl
 ·unfold sZ A2;rw [e_ 3 (by omega)];rfl
theorem Tf {G:Nat→List AV} {ks kp n m:Nat} (hb:Ad G ks kp n m) {e j:Nat} (he:e<2) (hj:j<n):tG G (G ks) (G kp) n (4+2*j+e)=F7 G (G ks) j∧F7 (tG G (G ks) (G kp) n) (tT (G ks) n e) j=F7 G (G ks) j∧(F7 G (G ks) j).length=sN (G ks) j∧u8s (F7 G (G ks) j)=true:=by
 have e1:tG G (G ks) (G kp) n (4+2*j+e)=F7 G (G ks) j:=by
  rw [show 4+2*j+e=(2*j+e)+4 by omega];show (if (2*j+e) / 2<n then F7 G (G ks) ((2*j+e) / 2) else [])=_;rw [show (2*j+e) / 2=j by omega,if_pos hj]
 have hd:=E7.1 (dat_im hb) j hj;unfold Jb at hd;rw [zO] at hd
 have hl:(F7 G (G ks) j).length=sN (G ks) j:=by
  have:=A8.1 hd.1
  simp only [F7,A0,List.length_take,List.length_drop,sN];omega
 obtain ⟨_,_,t1,t2,t3,_⟩:=jS (cs:=(G ks)) (n:=n) (e:=e) hj;refine ⟨e1,?_,hl,hd.2⟩;have t3:D1 (tT (G ks) n e) (j*4+2)=sN (G ks) j:=t3;show A0 (tG G (G ks) (G kp) n (G0 (tT (G ks) n e) (j*4+2))) (H8 (tT (G ks) n e) (j*4+2)) (D1 (tT (G ks) n e) (j*4+2))=_;rw [t1,t2,t3,e1];exact L3 hl
theorem aW3 {G:Nat→List AV} {ks kp n m:Nat} (hb:Ad G ks kp n m) {e:Nat} (he:e<2):Js (tG G (G ks) (G kp) n) (tT (G ks) n e) n=true:=E7.2 fun j hj=>by
 obtain ⟨d1,d2,d3,d4⟩:=Tf hb he hj;obtain ⟨_,_,t1,t2,t3,_⟩:=jS (cs:=(G ks)) (n:=n) (e:=e) hj;have t3:D1 (tT (G ks) n e) (j*4+2)=sN (G ks) j:=t3;unfold Jb;rw [d2,t1,t2,t3,d1,d3,d4,Bool.and_true];exact A8.2 (by omega)
theorem aH6 {G:Nat→List AV} {ks kp n m:Nat} {s:Int} (hb:Ad G ks kp n m):Qw (tG G (G ks) (G kp) n) s (tG G (G ks) (G kp) n 0) n (tG G (G ks) (G kp) n 1) m s (tG G (G ks) (G kp) n 2) n (tG G (G ks) (G kp) n 3) m=true:=by
 unfold Qw;rw [beq_self_eq_true,Bool.true_and];show (mH (G kp) m (G kp) m&&cW (tG G (G ks) (G kp) n) (tT (G ks) n 0) n (tT (G ks) n 1) n)=true;rw [gX,Bool.true_and];unfold cW;rw [zA9,Bool.true_and,E7];intro j hj;obtain ⟨_,a2,_,_⟩:=Tf hb (e:=0) (by omega) hj;obtain ⟨_,b2,_,_⟩:=Tf hb (e:=1) (by omega) hj;obtain ⟨c1,c2,_,_,_,c6⟩:=jS (cs:=(G ks)) (n:=n) (e:=0) hj;obtain ⟨f1,f2,_,_,_,f6⟩:=jS (cs:=(G ks)) (n:=n) (e:=1) hj;unfold Cb;rw [a2,b2,c1,c2,c6,f1,f2,f6];simp only [beq_self_eq_true,Bool.and_self]
def tS (cs:List AV) (ks kp a p b:Nat):Sig
 | 0=>(.rw a,0)
 | 1=>(.rw p,0)
 | 2=>(.ro ks,0)
 | 3=>(.ro kp,0)
 | k+4=>if k % 2=0 then (.rw (b+k / 2),0) else (.ro (G0 cs (k / 2*4+2)),0)
theorem Pb {l:List AV} (h:u8s l=true) {σ:Sig} {j:Nat} {v:AV} (hv:l[j]?=some v):E8 v=true∧sb σ 0 v=v:=vJ ⟨B7 h,Fj h⟩ j v hv σ
theorem rL {f:Nat→Int} {ps:List AV} {m:Nat} {σ:Sig} {j:Nat} {v:AV} (hv:(I8 f ps m)[j]?=some v):E8 v=true∧sb σ 0 v=v:=by
 have hj:j<m*2:=by
  have:=(zP.1 hv).1
  rwa [dT] at this
 have e_:∀ b,b<2→(I8 f ps m)[j / 2*2+b]?=some (Tv f ps (j / 2) b):=fun b hb=>P0 (f:=Tv f ps) (by omega) hb;rcases Nat.mod_two_eq_zero_or_one j with e | e
 ·have h1:=e_ 0 (by omega);rw [show j / 2*2+0=j by omega,hv] at h1;obtain rfl:=Option.some.inj h1;exact ⟨rfl,by simp [Tv,sb]⟩
 ·have h1:=e_ 1 (by omega);rw [show j / 2*2+1=j by omega,hv] at h1;obtain rfl:=Option.some.inj h1;exact ⟨rfl,by simp [Tv,sb]⟩
theorem gL {cs:List AV} {n:Nat} {d d':Nat→AV} {σ:Sig} (h:∀ j,j<n→E8 (d j)=true∧sb σ 0 (d j)=d' j) {j:Nat} {v:AV} (hv:(G7 cs n d)[j]?=some v):E8 v=true∧(G7 cs n d')[0+j]?=some (sb σ 0 v):=by
 have hj:j<n*4:=by
  have:=(zP.1 hv).1
  rwa [Wh] at this
 obtain ⟨d1,d2,d3⟩:=bY hj;have e1:(G7 cs n d)[j / 4*4+j % 4]?=some (V0 cs d (j / 4) (j % 4)):=P0 (f:=V0 cs d) d1 d2;have e2:(G7 cs n d')[j / 4*4+j % 4]?=some (V0 cs d' (j / 4) (j % 4)):=P0 (f:=V0 cs d') d1 d2;rw [←d3] at e1 e2;rw [e1] at hv;obtain rfl:=Option.some.inj hv;rw [Nat.zero_add,e2];generalize j / 4=i at *;generalize j % 4=c at *
 match c,d2 with
 | 0,_=>exact ⟨rfl,by simp [V0,sb]⟩
 | 1,_=>exact ⟨rfl,by simp [V0,sb]⟩
 | 2,_=>exact ⟨(h i d1).1,by show some (d' i)=some (sb σ 0 (d i));rw [(h i d1).2]⟩
 | 3,_=>exact ⟨rfl,by simp [V0,sb]⟩
theorem aF1 {G:Nat→List AV} {B ks kp n m a p b:Nat} (hb:Ad G ks kp n m) (hw:Z4 G ks kp n m) {H:Hp} (hS:H[a]?=some (some ⟨4,G7 (G ks) n (dW b (G ks))⟩)) (hP:H[p]?=some (some ⟨2,(I8 (xP (G kp)) (G kp) m)⟩)) (hD:∀ j,j<n→H[b+j]?=some (some ⟨1,F7 G (G ks) j⟩)) :
  Sees (za G B) H (tS (G ks) ks kp a p b) (tG G (G ks) (G kp) n):=by
 have sd:∀ e,e<2→∀ j,tS (G ks) ks kp a p b (4+2*j+e)=if e=0 then (.rw (b+j),0) else (.ro (G0 (G ks) (j*4+2)),0):=fun e he j=>by
  rw [show 4+2*j+e=(2*j+e)+4 by omega];show (if (2*j+e) % 2=0 then (Ref.rw (b+(2*j+e) / 2),0) else (.ro (G0 (G ks) ((2*j+e) / 2*4+2)),0))=_;rw [show (2*j+e) % 2=e by omega,show (2*j+e) / 2=j by omega]
 have pe:(G kp)=(I8 (xP (G kp)) (G kp) m):=hw.pls;intro k
 match k with
 | 0=>
  refine .inr ⟨G7 (G ks) n (dW b (G ks)),by simp only [tS,E5,hS];rfl,fun j v hv=>gL (fun i hi=>⟨rfl,?_⟩) hv⟩;have s0:=sd 0 (by omega) i;rw [if_pos rfl] at s0;unfold dK dW;simp only [sb,s0,Nat.zero_add]
 | 1=>
  refine .inr ⟨(I8 (xP (G kp)) (G kp) m),by simp only [tS,E5,hP];rfl,fun j v hv=>?_⟩;have hv:(G kp)[j]?=some v:=hv;rw [pe] at hv;obtain ⟨q1,q2⟩:=rL (σ:=tS (G ks) ks kp a p b) hv;exact ⟨q1,by rw [q2];show (I8 (xP (G kp)) (G kp) m)[0+j]?=_;rw [Nat.zero_add];exact hv⟩
 | 2=>
  refine .inr ⟨(G ks),rfl,fun j v hv=>?_⟩
  have:=gL (σ:=tS (G ks) ks kp a p b) (d':=dR (G ks)) (fun i hi=>⟨rfl,?_⟩) hv
  ·refine ⟨this.1,?_⟩;have e:(G ks)[0+j]?=(G7 (G ks) n (dR (G ks)))[0+j]?:=congrArg (fun l:List AV=>l[0+j]?) hw.sec;exact e.trans this.2
  ·unfold dK dR;simp only [sb,sd 1 (by omega) i,hw.off i hi];rfl
 | 3=>
  refine .inr ⟨(G kp),rfl,fun j v hv=>?_⟩;have hv:(G kp)[j]?=some v:=hv;have hv':=hv;rw [pe] at hv';obtain ⟨q1,q2⟩:=rL (σ:=tS (G ks) ks kp a p b) hv';exact ⟨q1,by rw [q2];show (G kp)[0+j]?=_;rw [Nat.zero_add];exact hv⟩
 | k+4=>
  by_cases hk:k / 2<n
  ·refine .inr ?_;have e4:k+4=4+2*(k / 2)+k % 2:=by omega
   obtain ⟨d1,_,_,d4⟩:=Tf hb (e:=k % 2) (by omega) hk;rw [e4,sd (k % 2) (by omega) (k / 2),d1];rcases Nat.mod_two_eq_zero_or_one k with e | e
   ·rw [e,if_pos rfl];refine ⟨F7 G (G ks) (k / 2),by simp only [E5,hD _ hk];rfl,fun j v hv=>?_⟩;obtain ⟨q1,q2⟩:=Pb d4 (σ:=tS (G ks) ks kp a p b) hv;exact ⟨q1,by rw [q2];show (F7 G (G ks) (k / 2))[0+j]?=_;rw [Nat.zero_add];exact hv⟩
   ·rw [e,if_neg (by omega)];refine ⟨G (G0 (G ks) (k / 2*4+2)),rfl,fun j v hv=>?_⟩;obtain ⟨q1,q2⟩:=Pb d4 (σ:=tS (G ks) ks kp a p b) hv;exact ⟨q1,by rw [q2,hw.dat _ hk];show (F7 G (G ks) (k / 2))[0+j]?=_;rw [Nat.zero_add];exact hv⟩
  ·refine .inl ?_;show (if k / 2<n then F7 G (G ks) (k / 2) else [])=[];rw [if_neg hk]
theorem lO (G:Nat→List AV) (B:Nat) (ks kp n m a p b:Nat) (s:Int) (hb:Ad G ks kp n m) (hw:Z4 G ks kp n m) (hn:n≤1000000) (hm:m≤1000000) {H:Hp} (hS:H[a]?=some (some ⟨4,G7 (G ks) n (dW b (G ks))⟩)) (hP:H[p]?=some (some ⟨2,(I8 (xP (G kp)) (G kp) m)⟩)) (hD:∀ j,j<n→H[b+j]?=some (some ⟨1,F7 G (G ks) j⟩)) :
  ACalls (za G B) 15 [.agg [.int .i64 s,.slice true (.rw a) 0 n,.slice true (.rw p) 0 m],.agg [.int .i64 s,.slice true (.ro ks) 0 n,.slice true (.ro kp) 0 m]] H fun v H'=>v=.bool true∧H'=H:=by
 have sec:∀ e,e<2→Tj (tG G (G ks) (G kp) n) (tT (G ks) n e) n=true:=fun e he=>by
  unfold Tj;rw [tT_ok,aW3 hb he,Nat.ble_eq_true_of_le hn];rfl
 have pls:Tu (G kp) m=true:=by
  unfold Tu;rw [hb.pls,Nat.ble_eq_true_of_le hm];rfl
 refine Pl (σ:=tS (G ks) ks kp a p b) (G:=tG G (G ks) (G kp) n) (args0:=[.agg [.int .i64 s,.slice true (.ro 0) 0 n,.slice true (.ro 1) 0 m],.agg [.int .i64 s,.slice true (.ro 2) 0 n,.slice true (.ro 3) 0 m]]) (aF1 (B:=B) hb hw hS hP hD) (fun B'=>?_) rfl (by simp [sbs,sb,tS]) (fun v e=>by subst e;exact ⟨rfl,rfl⟩);refine (aL (tG G (G ks) (G kp) n) B' s s 0 2 n n 1 3 m m (sec 0 (by omega)) (sec 1 (by omega)) pls pls).monoK fun v H' e=>?_;rw [e,aH6 hb]
def Zw (G:Nat→List AV) (kb:Nat):Prop:=∀ k,∀ v∈G k,E8 v=true∧∀ σ:Sig,(∀ q,q≠kb→σ q=(.ro q,0))→sb σ 0 v=v
def lK (kb i:Nat):Sig:=fun q=>if q=kb then (.rw i,0) else (.ro q,0)
theorem mP {G:Nat→List AV} {B kb i:Nat} (hA:Zw G kb) {H:Hp} {w:List AV} (hi:H[i]?=some (some ⟨1,G kb++w⟩)):Sees (za G B) H (lK kb i) G:=by
 intro k;refine .inr ?_;have ne:∀ q,q≠kb→lK kb i q=(.ro q,0):=fun q hq=>if_neg hq;by_cases e:k=kb
 ·subst e;rw [show lK k i k=(.rw i,0) from if_pos rfl];refine ⟨G k++w,by simp only [E5,hi];rfl,fun j v hv=>?_⟩;obtain ⟨h1,h2⟩:=hA k v (zA1 hv);refine ⟨h1,?_⟩;rw [h2 _ ne,Nat.zero_add,pY (zP.1 hv).1];exact hv
 ·rw [ne k e];refine ⟨G k,rfl,fun j v hv=>?_⟩;obtain ⟨h1,h2⟩:=hA k v (zA1 hv);refine ⟨h1,?_⟩;rw [h2 _ ne,Nat.zero_add];exact hv
theorem yA {cs:List AV} {n:Nat} {d:Nat→AV} (h:∀ j,j<n→M1 (d j)=true):N1 (G7 cs n d)=true:=by
 rw [Mj,qD];intro v hv;unfold G7 L6 at hv;obtain ⟨j,hj,rfl⟩:=List.mem_map.1 hv;have hj:=List.mem_range.1 hj
 have:=h (j / 4) (by omega)
 generalize j / 4=i at *;have hb:j % 4<4:=Nat.mod_lt _ (by omega);generalize j % 4=b at *
 match b,hb with
 | 0,_=>rfl
 | 1,_=>rfl
 | 2,_=>exact this
 | 3,_=>rfl
theorem hO {f:Nat→Int} {ps:List AV} {m:Nat}:N1 (I8 f ps m)=true:=by
 rw [Mj,qD];intro v hv;unfold I8 L6 at hv;obtain ⟨j,_,rfl⟩:=List.mem_map.1 hv;have hb:j % 2<2:=Nat.mod_lt _ (by omega);generalize j % 2=b at *
 match b,hb with
 | 0,_=>rfl
 | 1,_=>rfl
theorem scT_sh {N:Nat} {cs:List AV} {n b:Nat}:(G7 cs n (dW b cs)).map (sh N)=G7 cs n (dW (N+b) cs):=by
 unfold G7 L6;rw [List.map_map];refine List.map_congr_left fun j hj=>?_;have hb:j % 4<4:=Nat.mod_lt _ (by omega);simp only [Function.comp];generalize j / 4=i at *;generalize j % 4=c at *
 match c,hb with
 | 0,_=>simp [V0,sh,sb]
 | 1,_=>simp [V0,sh,sb]
 | 2,_=>simp [V0,sh,sb,dW,Nat.add_assoc]
 | 3,_=>simp [V0,sh,sb]
theorem qR {N:Nat} {l:List AV} (h:A6 0 l=true) (h':N1 l=true):l.map (sh N)=l:=by
 have:=Fp (σ:=fun _=>(.rw 0,0)) (n:=N) _ (Du _ h) h'
 rw [lN] at this;exact this
theorem gS {G:Nat→List AV} {cs:List AV} {n j:Nat} (hd:∀ i,i<n→u8s (F7 G cs i)=true) (hj:j<8):A6 0 (B1 (K8 G cs n) j)=true∧N1 (B1 (K8 G cs n) j)=true:=by
 rw [Jr hj];split
 ·rename_i h;exact ⟨B7 (hd j h),Fj (hd j h)⟩
 ·exact ⟨rfl,rfl⟩
def Ul (G:Nat→List AV) (ks kp n m b:Nat):Hp:=[some ⟨4,G7 (G ks) n (dW b (G ks))⟩,some ⟨2,(I8 (xP (G kp)) (G kp) m)⟩]++N0 (K8 G (G ks) n)
theorem hpP_sh {G:Nat→List AV} {ks kp n m N:Nat} (hd:∀ i,i<n→u8s (F7 G (G ks) i)=true):(Ul G ks kp n m 2).map (Pi N)=Ul G ks kp n m (N+2):=by
 unfold Ul;rw [List.map_append]
 have e1:(N0 (K8 G (G ks) n)).map (Pi N)=N0 (K8 G (G ks) n):=by
  unfold N0;rw [List.map_map];refine List.map_congr_left fun j hj=>?_;obtain ⟨h1,h2⟩:=gS hd (List.mem_range.1 hj);show some (⟨1,(B1 (K8 G (G ks) n) j).map (sh N)⟩:Blk)=_;rw [qR h1 h2]
 rw [e1];congr 1;show [some (⟨4,(G7 (G ks) n (dW 2 (G ks))).map (sh N)⟩:Blk),some ⟨2,((I8 (xP (G kp)) (G kp) m)).map (sh N)⟩]=_;rw [scT_sh,qR Cw hO]
theorem rd_in (G:Nat→List AV) (B:Nat) (kb ks kp kd0 n m i:Nat) (s:Int) (hA:Zw G kb) (hk:G kb=E3 G s (G ks) n (G kp) m) (O:Qi G ks kp kd0 n) (hb:Ad G ks kp n m) (hw:Z4 G ks kp n m) (hn:n≤1000000) (hm:m≤1000000) (hy:K1 s (G ks) n (G kp) m=true) {H:Hp} {w:List AV} (hi:H[i]?=some (some ⟨1,G kb++w⟩)) :
  ACalls (za G B) 29 [.slice true (.rw i) 0 (G kb).length] H fun v H'=>v=.tup [.agg [.int .i64 s,.slice true (.rw H.length) 0 n,.slice true (.rw (H.length+1)) 0 m],.int .i64 0]∧H'=H++Ul G ks kp n m (H.length+2):=by
 have hd:∀ i,i<n→u8s (F7 G (G ks) i)=true:=fun i hi=>(Tf hb (e:=0) (by omega) hi).2.2.2
 have eI:iJ G ks kp n m 2=Ul G ks kp n m 2:=by
  unfold iJ Ul;rw [zC hb]
 have key:=yP (C:=(za G B)) (mP (B:=B) hA hi) (fun B'=>rd_own G B' ks kp kb kd0 n m s hk O hb hw hn hm hy) rfl rfl (fun v H' e=>by
  obtain ⟨rfl,rfl⟩:=e;refine ⟨rfl,fun j b hj=>?_⟩;rw [eI] at hj
  match j,hj with
  | 0,hj=>simp [Ul] at hj;subst hj;exact yA fun j _=>rfl
  | 1,hj=>simp [Ul] at hj;subst hj;exact hO
  | j+2,hj=>
   have hj:(N0 (K8 G (G ks) n))[j]?=some (some b):=hj
   have h8:j<8:=by
    have:=(zP.1 hj).1
    rwa [P3] at this
   rw [Mc h8] at hj;simp at hj;subst hj
   exact (gS hd h8).2)
 rw [←hk] at key
 have e0:sbs (lK kb i) 0 [.slice true (.ro kb) 0 (G kb).length]=[.slice true (.rw i) 0 (G kb).length]:=by
  simp [sbs,sb,lK]
 rw [e0] at key;refine key.monoK ?_;rintro v H' ⟨v0,H0,⟨rfl,rfl⟩,rfl,rfl⟩;refine ⟨by simp [sh,sb,sbs],?_⟩;rw [eI,hpP_sh hd]
theorem rd_inN (G:Nat→List AV) (B:Nat) (kb ks kp i:Nat) (kd:Nat→Nat) (hA:Zw G kb) (h8:E4 (G kb)=true) (hL:(G kb).length≤1000000) (g:Yh G ks kp kd (G kb)) (ho:Y1 G ks kp (G kb)=false) {H:Hp} {w:List AV} (hi:H[i]?=some (some ⟨1,G kb++w⟩)) :
  ACalls (za G B) 29 [.slice true (.rw i) 0 (G kb).length] H fun v H'=>v=.tup [.agg [.int .i64 0,.nils,.nils],.int .i64 4]∧H'=H:=by
 refine Pl (σ:=lK kb i) (args0:=[.slice true (.ro kb) 0 (G kb).length]) (mP (B:=B) hA hi) (fun B'=>yY (B:=B') rfl h8 hL g ho) rfl (by simp [sbs,sb,lK]) (fun v e=>by subst e;exact ⟨rfl,rfl⟩)
end Go.Am
