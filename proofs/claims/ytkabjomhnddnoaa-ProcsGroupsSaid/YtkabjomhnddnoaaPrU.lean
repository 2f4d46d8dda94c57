/-
  Processes: the program's Kill: a round.
-/
import Derived.Test.YtkabjomhnddnoaaPrT
namespace Go.Am
open Go.Proofs Crc
set_option maxRecDepth 100000
def HMd (T S:EL) (to sg me:EI) (st sm:EB) (rc:EL):DHp:=[some ⟨1,T⟩,some ⟨1,.row S (.lit 0)⟩,some ⟨1,.row S (.lit 1)⟩,some ⟨1,.row S (.lit 2)⟩,some ⟨1,.row S (.lit 3)⟩,some ⟨1,.row S (.lit 4)⟩,some ⟨1,.row S (.lit 5)⟩,some ⟨1,.row S (.lit 6)⟩,some ⟨1,.row S (.lit 7)⟩,some ⟨1,.row S (.lit 8)⟩,some ⟨1,.row S (.lit 9)⟩,some ⟨1,.row S (.lit 10)⟩,some ⟨1,.row S (.lit 11)⟩,some ⟨1,.row S (.lit 12)⟩,some ⟨1,.of [.ptr (.rw 0) (.lit 0)]⟩,some ⟨1,.of [.int .i64 to]⟩,some ⟨1,.of [.int .i64 sg]⟩,some ⟨1,.of [.int .i64 me]⟩,some ⟨1,.of [.bool st]⟩,some ⟨1,.of [.func 53 [.ptr (.rw 17) (.lit 0),.ptr (.rw 14) (.lit 0),.ptr (.rw 18) (.lit 0),.ptr (.rw 16) (.lit 0)]]⟩,some ⟨1,.of [.bool sm]⟩,some ⟨1,.of [.ptr (.rw 0) (.lit 0)]⟩,some ⟨4294967291,rc⟩]
theorem m_as' (G:Nat→List AV) (tb sl rc xr:List AV) (to sg me:Int) (st sm:Bool) (x0 x1 x2 x3:Int) (xb:Bool) (x5:Int) (Q:Ex→List AV→Hp→Prop) (R:AV→Hp→Prop):vT G Q R (dloop (Df Try.prog [(48,1,13)] [53,20,39,36] [(23,fSendS sideP)] [] 0) 200 60 24 (rgA (loopN Try.f21 0)) 71 [6,8,11,12,13,43,44,14] [.ptr (.rw 15) (.lit 0),.int .i64 (.lit 0),.ptr (.rw 18) (.lit 0),.ptr (.rw 19) (.lit 0),.ptr (.rw 20) (.lit 0),.func 76 [.ptr (.rw 21) (.lit 0)],.agg (.of [.int .i64 (.var 11 x0),.int .i64 (.var 12 x1),.int .i64 (.var 13 x2),.int .i64 (.var 14 x3),.bool (.var 15 xb),.int .i64 (.var 16 x5)]),.undef] ((HMd (.var 1 tb) (.var 2 sl) (.var 3 to) (.var 4 sg) (.var 5 me) (.var 6 st) (.var 7 sm) (.var 24 rc))++[some ⟨1,.var 23 xr⟩]))=(
  Q .normal [.ptr (.rw 15) (0),.int .i64 (0),.ptr (.rw 18) (0),.ptr (.rw 19) (0),.ptr (.rw 20) (0),.func 76 [.ptr (.rw 21) (0)],.agg ([.int .i64 (x0),.int .i64 (x1),.int .i64 (x2),.int .i64 (x3),.bool (xb),.int .i64 (x5)]:List AV),.ptr (.rw 24) (0)] ([some ⟨1,tb⟩]++(rows13 sl++[some ⟨1,([.ptr (.rw 0) (0)]:List AV)⟩,some ⟨1,([.int .i64 (to)]:List AV)⟩,some ⟨1,([.int .i64 (sg)]:List AV)⟩,some ⟨1,([.int .i64 (me)]:List AV)⟩,some ⟨1,([.bool (st)]:List AV)⟩,some ⟨1,([.func 53 [.ptr (.rw 17) (0),.ptr (.rw 14) (0),.ptr (.rw 18) (0),.ptr (.rw 16) (0)]]:List AV)⟩,some ⟨1,([.bool (sm)]:List AV)⟩,some ⟨1,([.ptr (.rw 0) (0)]:List AV)⟩,some ⟨4294967291,rc⟩,some ⟨1,xr⟩,some ⟨1,([.int .i64 (x0),.int .i64 (x1),.int .i64 (x2),.int .i64 (x3),.bool (xb),.int .i64 (x5)]:List AV)⟩]))):=by kernel_rfl
theorem m_bd (G:Nat→List AV) (tb sl rc xr:List AV) (to sg me:Int) (st sm:Bool) (x0 x1 x2 x3:Int) (xb:Bool) (x5:Int) (Q:Ex→List AV→Hp→Prop) (R:AV→Hp→Prop):vT G Q R (dloop (Df Try.prog [(48,1,13)] [53,20,39,36] [(23,fSendS sideP)] [] 0) 300 60 24 (rgB (loopN Try.f21 0)) 71 [6,8,11,12,13,43,44,14] [.ptr (.rw 15) (.lit 0),.int .i64 (.lit 0),.ptr (.rw 18) (.lit 0),.ptr (.rw 19) (.lit 0),.ptr (.rw 20) (.lit 0),.func 76 [.ptr (.rw 21) (.lit 0)],.agg (.of [.int .i64 (.var 11 x0),.int .i64 (.var 12 x1),.int .i64 (.var 13 x2),.int .i64 (.var 14 x3),.bool (.var 15 xb),.int .i64 (.var 16 x5)]),.ptr (.rw 24) (.lit 0)] (((HMd (.var 1 tb) (.var 2 sl) (.var 3 to) (.var 4 sg) (.var 5 me) (.var 6 st) (.var 7 sm) (.var 24 rc))++[some ⟨1,.var 23 xr⟩])++[some ⟨1,(.of [.int .i64 (.var 11 x0),.int .i64 (.var 12 x1),.int .i64 (.var 13 x2),.int .i64 (.var 14 x3),.bool (.var 15 xb),.int .i64 (.var 16 x5)])⟩]))=(
  (((to:Int)==x0)=true→
 (((me:Int)==0)=true→
 isB tb (0)=true∧
 (getB tb (0)=true→
 (decide ((x0:Int)≥1)=true→
 (decide ((x0:Int)≤12)=true→
 decide ((0:Int)≤x0)=true∧
 decide ((x0:Int)<13)=true∧
 isI .i64 tb ((Int.toNat (x0))*7+1)=true∧
 (((getI tb ((Int.toNat (x0))*7+1):Int)==x0)=true→
 decide ((0:Int)≤x0)=true∧
 decide ((x0:Int)<13)=true∧
 isB tb ((Int.toNat (x0))*7+5)=true∧
 (getB tb ((Int.toNat (x0))*7+5)=true→
 Q .normal [.ptr (.rw 15) (0),.int .i64 (0),.ptr (.rw 18) (0),.ptr (.rw 19) (0),.ptr (.rw 20) (0),.func 76 [.ptr (.rw 21) (0)],.agg ([.int .i64 (x0),.int .i64 (x1),.int .i64 (x2),.int .i64 (x3),.bool (xb),.int .i64 (x5)]:List AV),.ptr (.rw 24) (0)] ([some ⟨1,tb⟩]++(rows13 sl++[some ⟨1,([.ptr (.rw 0) (0)]:List AV)⟩,some ⟨1,([.int .i64 (to)]:List AV)⟩,some ⟨1,([.int .i64 (sg)]:List AV)⟩,some ⟨1,([.int .i64 (me)]:List AV)⟩,some ⟨1,([.bool (true)]:List AV)⟩,some ⟨1,([.func 53 [.ptr (.rw 17) (0),.ptr (.rw 14) (0),.ptr (.rw 18) (0),.ptr (.rw 16) (0)]]:List AV)⟩,some ⟨1,([.bool (true)]:List AV)⟩,some ⟨1,([.ptr (.rw 0) (0)]:List AV)⟩,some ⟨4294967291,rc⟩,some ⟨1,xr⟩,some ⟨1,([.int .i64 (x0),.int .i64 (x1),.int .i64 (x2),.int .i64 (x3),.bool (xb),.int .i64 (x5)]:List AV)⟩])))∧
 (getB tb ((Int.toNat (x0))*7+5)=false→
 decide ((0:Int)≤x0)=true∧
 decide ((x0:Int)<13)=true∧
 (isNilA tb ((Int.toNat (x0))*7+7)=true→
 False)∧
 (isNilA tb ((Int.toNat (x0))*7+7)=false→
 isPA 1 13 tb ((Int.toNat (x0))*7+7)=true∧
 Nat.beq (foA tb ((Int.toNat (x0))*7+7)) (0)=true∧
 leB (fkA 1 tb ((Int.toNat (x0))*7+7)+1) (13)=true∧
 rowsA sl (rp 13 sl)=true∧
 leB (fkA 1 tb ((Int.toNat (x0))*7+7)+1) (List.length sl)=true∧
 okU [.agg (rowA sl (fkA 1 tb ((Int.toNat (x0))*7+7)))]=true∧
 Q .normal [.ptr (.rw 15) (0),.int .i64 (0),.ptr (.rw 18) (0),.ptr (.rw 19) (0),.ptr (.rw 20) (0),.func 76 [.ptr (.rw 21) (0)],.agg ([.int .i64 (x0),.int .i64 (x1),.int .i64 (x2),.int .i64 (x3),.bool (xb),.int .i64 (x5)]:List AV),.ptr (.rw 24) (0)] ([some ⟨1,tb⟩]++(rows13 (putA sl (fkA 1 tb ((Int.toNat (x0))*7+7)) (sendXU [.agg (rowA sl (fkA 1 tb ((Int.toNat (x0))*7+7))),.int .i64 (sg)]))++[some ⟨1,([.ptr (.rw 0) (0)]:List AV)⟩,some ⟨1,([.int .i64 (to)]:List AV)⟩,some ⟨1,([.int .i64 (sg)]:List AV)⟩,some ⟨1,([.int .i64 (me)]:List AV)⟩,some ⟨1,([.bool (true)]:List AV)⟩,some ⟨1,([.func 53 [.ptr (.rw 17) (0),.ptr (.rw 14) (0),.ptr (.rw 18) (0),.ptr (.rw 16) (0)]]:List AV)⟩,some ⟨1,([.bool (true)]:List AV)⟩,some ⟨1,([.ptr (.rw 0) (0)]:List AV)⟩,some ⟨4294967291,rc⟩,some ⟨1,xr⟩,some ⟨1,([.int .i64 (x0),.int .i64 (x1),.int .i64 (x2),.int .i64 (x3),.bool (xb),.int .i64 (x5)]:List AV)⟩])))))∧
 (((getI tb ((Int.toNat (x0))*7+1):Int)==x0)=false→
 Q .normal [.ptr (.rw 15) (0),.int .i64 (0),.ptr (.rw 18) (0),.ptr (.rw 19) (0),.ptr (.rw 20) (0),.func 76 [.ptr (.rw 21) (0)],.agg ([.int .i64 (x0),.int .i64 (x1),.int .i64 (x2),.int .i64 (x3),.bool (xb),.int .i64 (x5)]:List AV),.ptr (.rw 24) (0)] ([some ⟨1,tb⟩]++(rows13 sl++[some ⟨1,([.ptr (.rw 0) (0)]:List AV)⟩,some ⟨1,([.int .i64 (to)]:List AV)⟩,some ⟨1,([.int .i64 (sg)]:List AV)⟩,some ⟨1,([.int .i64 (me)]:List AV)⟩,some ⟨1,([.bool (true)]:List AV)⟩,some ⟨1,([.func 53 [.ptr (.rw 17) (0),.ptr (.rw 14) (0),.ptr (.rw 18) (0),.ptr (.rw 16) (0)]]:List AV)⟩,some ⟨1,([.bool (true)]:List AV)⟩,some ⟨1,([.ptr (.rw 0) (0)]:List AV)⟩,some ⟨4294967291,rc⟩,some ⟨1,xr⟩,some ⟨1,([.int .i64 (x0),.int .i64 (x1),.int .i64 (x2),.int .i64 (x3),.bool (xb),.int .i64 (x5)]:List AV)⟩]))))∧
 (decide ((x0:Int)≤12)=false→
 Q .normal [.ptr (.rw 15) (0),.int .i64 (0),.ptr (.rw 18) (0),.ptr (.rw 19) (0),.ptr (.rw 20) (0),.func 76 [.ptr (.rw 21) (0)],.agg ([.int .i64 (x0),.int .i64 (x1),.int .i64 (x2),.int .i64 (x3),.bool (xb),.int .i64 (x5)]:List AV),.ptr (.rw 24) (0)] ([some ⟨1,tb⟩]++(rows13 sl++[some ⟨1,([.ptr (.rw 0) (0)]:List AV)⟩,some ⟨1,([.int .i64 (to)]:List AV)⟩,some ⟨1,([.int .i64 (sg)]:List AV)⟩,some ⟨1,([.int .i64 (me)]:List AV)⟩,some ⟨1,([.bool (true)]:List AV)⟩,some ⟨1,([.func 53 [.ptr (.rw 17) (0),.ptr (.rw 14) (0),.ptr (.rw 18) (0),.ptr (.rw 16) (0)]]:List AV)⟩,some ⟨1,([.bool (true)]:List AV)⟩,some ⟨1,([.ptr (.rw 0) (0)]:List AV)⟩,some ⟨4294967291,rc⟩,some ⟨1,xr⟩,some ⟨1,([.int .i64 (x0),.int .i64 (x1),.int .i64 (x2),.int .i64 (x3),.bool (xb),.int .i64 (x5)]:List AV)⟩]))))∧
 (decide ((x0:Int)≥1)=false→
 Q .normal [.ptr (.rw 15) (0),.int .i64 (0),.ptr (.rw 18) (0),.ptr (.rw 19) (0),.ptr (.rw 20) (0),.func 76 [.ptr (.rw 21) (0)],.agg ([.int .i64 (x0),.int .i64 (x1),.int .i64 (x2),.int .i64 (x3),.bool (xb),.int .i64 (x5)]:List AV),.ptr (.rw 24) (0)] ([some ⟨1,tb⟩]++(rows13 sl++[some ⟨1,([.ptr (.rw 0) (0)]:List AV)⟩,some ⟨1,([.int .i64 (to)]:List AV)⟩,some ⟨1,([.int .i64 (sg)]:List AV)⟩,some ⟨1,([.int .i64 (me)]:List AV)⟩,some ⟨1,([.bool (true)]:List AV)⟩,some ⟨1,([.func 53 [.ptr (.rw 17) (0),.ptr (.rw 14) (0),.ptr (.rw 18) (0),.ptr (.rw 16) (0)]]:List AV)⟩,some ⟨1,([.bool (true)]:List AV)⟩,some ⟨1,([.ptr (.rw 0) (0)]:List AV)⟩,some ⟨4294967291,rc⟩,some ⟨1,xr⟩,some ⟨1,([.int .i64 (x0),.int .i64 (x1),.int .i64 (x2),.int .i64 (x3),.bool (xb),.int .i64 (x5)]:List AV)⟩]))))∧
 (getB tb (0)=false→
 Q .normal [.ptr (.rw 15) (0),.int .i64 (0),.ptr (.rw 18) (0),.ptr (.rw 19) (0),.ptr (.rw 20) (0),.func 76 [.ptr (.rw 21) (0)],.agg ([.int .i64 (x0),.int .i64 (x1),.int .i64 (x2),.int .i64 (x3),.bool (xb),.int .i64 (x5)]:List AV),.ptr (.rw 24) (0)] ([some ⟨1,tb⟩]++(rows13 sl++[some ⟨1,([.ptr (.rw 0) (0)]:List AV)⟩,some ⟨1,([.int .i64 (to)]:List AV)⟩,some ⟨1,([.int .i64 (sg)]:List AV)⟩,some ⟨1,([.int .i64 (me)]:List AV)⟩,some ⟨1,([.bool (true)]:List AV)⟩,some ⟨1,([.func 53 [.ptr (.rw 17) (0),.ptr (.rw 14) (0),.ptr (.rw 18) (0),.ptr (.rw 16) (0)]]:List AV)⟩,some ⟨1,([.bool (true)]:List AV)⟩,some ⟨1,([.ptr (.rw 0) (0)]:List AV)⟩,some ⟨4294967291,rc⟩,some ⟨1,xr⟩,some ⟨1,([.int .i64 (x0),.int .i64 (x1),.int .i64 (x2),.int .i64 (x3),.bool (xb),.int .i64 (x5)]:List AV)⟩]))))∧
 (((me:Int)==0)=false→
 decide ((0:Int)≤x0)=true∧
 decide ((x0:Int)<13)=true∧
 isI .i64 tb ((Int.toNat (x0))*7+4)=true∧
 (((me:Int)==getI tb ((Int.toNat (x0))*7+4))=true→
 isB tb (0)=true∧
 (getB tb (0)=true→
 (decide ((x0:Int)≥1)=true→
 (decide ((x0:Int)≤12)=true→
 decide ((0:Int)≤x0)=true∧
 decide ((x0:Int)<13)=true∧
 isI .i64 tb ((Int.toNat (x0))*7+1)=true∧
 (((getI tb ((Int.toNat (x0))*7+1):Int)==x0)=true→
 decide ((0:Int)≤x0)=true∧
 decide ((x0:Int)<13)=true∧
 isB tb ((Int.toNat (x0))*7+5)=true∧
 (getB tb ((Int.toNat (x0))*7+5)=true→
 Q .normal [.ptr (.rw 15) (0),.int .i64 (0),.ptr (.rw 18) (0),.ptr (.rw 19) (0),.ptr (.rw 20) (0),.func 76 [.ptr (.rw 21) (0)],.agg ([.int .i64 (x0),.int .i64 (x1),.int .i64 (x2),.int .i64 (x3),.bool (xb),.int .i64 (x5)]:List AV),.ptr (.rw 24) (0)] ([some ⟨1,tb⟩]++(rows13 sl++[some ⟨1,([.ptr (.rw 0) (0)]:List AV)⟩,some ⟨1,([.int .i64 (to)]:List AV)⟩,some ⟨1,([.int .i64 (sg)]:List AV)⟩,some ⟨1,([.int .i64 (me)]:List AV)⟩,some ⟨1,([.bool (true)]:List AV)⟩,some ⟨1,([.func 53 [.ptr (.rw 17) (0),.ptr (.rw 14) (0),.ptr (.rw 18) (0),.ptr (.rw 16) (0)]]:List AV)⟩,some ⟨1,([.bool (true)]:List AV)⟩,some ⟨1,([.ptr (.rw 0) (0)]:List AV)⟩,some ⟨4294967291,rc⟩,some ⟨1,xr⟩,some ⟨1,([.int .i64 (x0),.int .i64 (x1),.int .i64 (x2),.int .i64 (x3),.bool (xb),.int .i64 (x5)]:List AV)⟩])))∧
 (getB tb ((Int.toNat (x0))*7+5)=false→
 decide ((0:Int)≤x0)=true∧
 decide ((x0:Int)<13)=true∧
 (isNilA tb ((Int.toNat (x0))*7+7)=true→
 False)∧
 (isNilA tb ((Int.toNat (x0))*7+7)=false→
 isPA 1 13 tb ((Int.toNat (x0))*7+7)=true∧
 Nat.beq (foA tb ((Int.toNat (x0))*7+7)) (0)=true∧
 leB (fkA 1 tb ((Int.toNat (x0))*7+7)+1) (13)=true∧
 rowsA sl (rp 13 sl)=true∧
 leB (fkA 1 tb ((Int.toNat (x0))*7+7)+1) (List.length sl)=true∧
 okU [.agg (rowA sl (fkA 1 tb ((Int.toNat (x0))*7+7)))]=true∧
 Q .normal [.ptr (.rw 15) (0),.int .i64 (0),.ptr (.rw 18) (0),.ptr (.rw 19) (0),.ptr (.rw 20) (0),.func 76 [.ptr (.rw 21) (0)],.agg ([.int .i64 (x0),.int .i64 (x1),.int .i64 (x2),.int .i64 (x3),.bool (xb),.int .i64 (x5)]:List AV),.ptr (.rw 24) (0)] ([some ⟨1,tb⟩]++(rows13 (putA sl (fkA 1 tb ((Int.toNat (x0))*7+7)) (sendXU [.agg (rowA sl (fkA 1 tb ((Int.toNat (x0))*7+7))),.int .i64 (sg)]))++[some ⟨1,([.ptr (.rw 0) (0)]:List AV)⟩,some ⟨1,([.int .i64 (to)]:List AV)⟩,some ⟨1,([.int .i64 (sg)]:List AV)⟩,some ⟨1,([.int .i64 (me)]:List AV)⟩,some ⟨1,([.bool (true)]:List AV)⟩,some ⟨1,([.func 53 [.ptr (.rw 17) (0),.ptr (.rw 14) (0),.ptr (.rw 18) (0),.ptr (.rw 16) (0)]]:List AV)⟩,some ⟨1,([.bool (true)]:List AV)⟩,some ⟨1,([.ptr (.rw 0) (0)]:List AV)⟩,some ⟨4294967291,rc⟩,some ⟨1,xr⟩,some ⟨1,([.int .i64 (x0),.int .i64 (x1),.int .i64 (x2),.int .i64 (x3),.bool (xb),.int .i64 (x5)]:List AV)⟩])))))∧
 (((getI tb ((Int.toNat (x0))*7+1):Int)==x0)=false→
 Q .normal [.ptr (.rw 15) (0),.int .i64 (0),.ptr (.rw 18) (0),.ptr (.rw 19) (0),.ptr (.rw 20) (0),.func 76 [.ptr (.rw 21) (0)],.agg ([.int .i64 (x0),.int .i64 (x1),.int .i64 (x2),.int .i64 (x3),.bool (xb),.int .i64 (x5)]:List AV),.ptr (.rw 24) (0)] ([some ⟨1,tb⟩]++(rows13 sl++[some ⟨1,([.ptr (.rw 0) (0)]:List AV)⟩,some ⟨1,([.int .i64 (to)]:List AV)⟩,some ⟨1,([.int .i64 (sg)]:List AV)⟩,some ⟨1,([.int .i64 (me)]:List AV)⟩,some ⟨1,([.bool (true)]:List AV)⟩,some ⟨1,([.func 53 [.ptr (.rw 17) (0),.ptr (.rw 14) (0),.ptr (.rw 18) (0),.ptr (.rw 16) (0)]]:List AV)⟩,some ⟨1,([.bool (true)]:List AV)⟩,some ⟨1,([.ptr (.rw 0) (0)]:List AV)⟩,some ⟨4294967291,rc⟩,some ⟨1,xr⟩,some ⟨1,([.int .i64 (x0),.int .i64 (x1),.int .i64 (x2),.int .i64 (x3),.bool (xb),.int .i64 (x5)]:List AV)⟩]))))∧
 (decide ((x0:Int)≤12)=false→
 Q .normal [.ptr (.rw 15) (0),.int .i64 (0),.ptr (.rw 18) (0),.ptr (.rw 19) (0),.ptr (.rw 20) (0),.func 76 [.ptr (.rw 21) (0)],.agg ([.int .i64 (x0),.int .i64 (x1),.int .i64 (x2),.int .i64 (x3),.bool (xb),.int .i64 (x5)]:List AV),.ptr (.rw 24) (0)] ([some ⟨1,tb⟩]++(rows13 sl++[some ⟨1,([.ptr (.rw 0) (0)]:List AV)⟩,some ⟨1,([.int .i64 (to)]:List AV)⟩,some ⟨1,([.int .i64 (sg)]:List AV)⟩,some ⟨1,([.int .i64 (me)]:List AV)⟩,some ⟨1,([.bool (true)]:List AV)⟩,some ⟨1,([.func 53 [.ptr (.rw 17) (0),.ptr (.rw 14) (0),.ptr (.rw 18) (0),.ptr (.rw 16) (0)]]:List AV)⟩,some ⟨1,([.bool (true)]:List AV)⟩,some ⟨1,([.ptr (.rw 0) (0)]:List AV)⟩,some ⟨4294967291,rc⟩,some ⟨1,xr⟩,some ⟨1,([.int .i64 (x0),.int .i64 (x1),.int .i64 (x2),.int .i64 (x3),.bool (xb),.int .i64 (x5)]:List AV)⟩]))))∧
 (decide ((x0:Int)≥1)=false→
 Q .normal [.ptr (.rw 15) (0),.int .i64 (0),.ptr (.rw 18) (0),.ptr (.rw 19) (0),.ptr (.rw 20) (0),.func 76 [.ptr (.rw 21) (0)],.agg ([.int .i64 (x0),.int .i64 (x1),.int .i64 (x2),.int .i64 (x3),.bool (xb),.int .i64 (x5)]:List AV),.ptr (.rw 24) (0)] ([some ⟨1,tb⟩]++(rows13 sl++[some ⟨1,([.ptr (.rw 0) (0)]:List AV)⟩,some ⟨1,([.int .i64 (to)]:List AV)⟩,some ⟨1,([.int .i64 (sg)]:List AV)⟩,some ⟨1,([.int .i64 (me)]:List AV)⟩,some ⟨1,([.bool (true)]:List AV)⟩,some ⟨1,([.func 53 [.ptr (.rw 17) (0),.ptr (.rw 14) (0),.ptr (.rw 18) (0),.ptr (.rw 16) (0)]]:List AV)⟩,some ⟨1,([.bool (true)]:List AV)⟩,some ⟨1,([.ptr (.rw 0) (0)]:List AV)⟩,some ⟨4294967291,rc⟩,some ⟨1,xr⟩,some ⟨1,([.int .i64 (x0),.int .i64 (x1),.int .i64 (x2),.int .i64 (x3),.bool (xb),.int .i64 (x5)]:List AV)⟩]))))∧
 (getB tb (0)=false→
 Q .normal [.ptr (.rw 15) (0),.int .i64 (0),.ptr (.rw 18) (0),.ptr (.rw 19) (0),.ptr (.rw 20) (0),.func 76 [.ptr (.rw 21) (0)],.agg ([.int .i64 (x0),.int .i64 (x1),.int .i64 (x2),.int .i64 (x3),.bool (xb),.int .i64 (x5)]:List AV),.ptr (.rw 24) (0)] ([some ⟨1,tb⟩]++(rows13 sl++[some ⟨1,([.ptr (.rw 0) (0)]:List AV)⟩,some ⟨1,([.int .i64 (to)]:List AV)⟩,some ⟨1,([.int .i64 (sg)]:List AV)⟩,some ⟨1,([.int .i64 (me)]:List AV)⟩,some ⟨1,([.bool (true)]:List AV)⟩,some ⟨1,([.func 53 [.ptr (.rw 17) (0),.ptr (.rw 14) (0),.ptr (.rw 18) (0),.ptr (.rw 16) (0)]]:List AV)⟩,some ⟨1,([.bool (true)]:List AV)⟩,some ⟨1,([.ptr (.rw 0) (0)]:List AV)⟩,some ⟨4294967291,rc⟩,some ⟨1,xr⟩,some ⟨1,([.int .i64 (x0),.int .i64 (x1),.int .i64 (x2),.int .i64 (x3),.bool (xb),.int .i64 (x5)]:List AV)⟩]))))∧
 (((me:Int)==getI tb ((Int.toNat (x0))*7+4))=false→
 Q .normal [.ptr (.rw 15) (0),.int .i64 (0),.ptr (.rw 18) (0),.ptr (.rw 19) (0),.ptr (.rw 20) (0),.func 76 [.ptr (.rw 21) (0)],.agg ([.int .i64 (x0),.int .i64 (x1),.int .i64 (x2),.int .i64 (x3),.bool (xb),.int .i64 (x5)]:List AV),.ptr (.rw 24) (0)] ([some ⟨1,tb⟩]++(rows13 sl++[some ⟨1,([.ptr (.rw 0) (0)]:List AV)⟩,some ⟨1,([.int .i64 (to)]:List AV)⟩,some ⟨1,([.int .i64 (sg)]:List AV)⟩,some ⟨1,([.int .i64 (me)]:List AV)⟩,some ⟨1,([.bool (st)]:List AV)⟩,some ⟨1,([.func 53 [.ptr (.rw 17) (0),.ptr (.rw 14) (0),.ptr (.rw 18) (0),.ptr (.rw 16) (0)]]:List AV)⟩,some ⟨1,([.bool (true)]:List AV)⟩,some ⟨1,([.ptr (.rw 0) (0)]:List AV)⟩,some ⟨4294967291,rc⟩,some ⟨1,xr⟩,some ⟨1,([.int .i64 (x0),.int .i64 (x1),.int .i64 (x2),.int .i64 (x3),.bool (xb),.int .i64 (x5)]:List AV)⟩])))))∧
 (((to:Int)==x0)=false→
 (((IntKind.wrap .i64 (0 - (x2)):Int)==to)=true→
 (xb=true→
 Q .normal [.ptr (.rw 15) (0),.int .i64 (0),.ptr (.rw 18) (0),.ptr (.rw 19) (0),.ptr (.rw 20) (0),.func 76 [.ptr (.rw 21) (0)],.agg ([.int .i64 (x0),.int .i64 (x1),.int .i64 (x2),.int .i64 (x3),.bool (xb),.int .i64 (x5)]:List AV),.ptr (.rw 24) (0)] ([some ⟨1,tb⟩]++(rows13 sl++[some ⟨1,([.ptr (.rw 0) (0)]:List AV)⟩,some ⟨1,([.int .i64 (to)]:List AV)⟩,some ⟨1,([.int .i64 (sg)]:List AV)⟩,some ⟨1,([.int .i64 (me)]:List AV)⟩,some ⟨1,([.bool (st)]:List AV)⟩,some ⟨1,([.func 53 [.ptr (.rw 17) (0),.ptr (.rw 14) (0),.ptr (.rw 18) (0),.ptr (.rw 16) (0)]]:List AV)⟩,some ⟨1,([.bool (sm)]:List AV)⟩,some ⟨1,([.ptr (.rw 0) (0)]:List AV)⟩,some ⟨4294967291,rc⟩,some ⟨1,xr⟩,some ⟨1,([.int .i64 (x0),.int .i64 (x1),.int .i64 (x2),.int .i64 (x3),.bool (xb),.int .i64 (x5)]:List AV)⟩])))∧
 (xb=false→
 (((me:Int)==0)=true→
 isB tb (0)=true∧
 (getB tb (0)=true→
 (decide ((x0:Int)≥1)=true→
 (decide ((x0:Int)≤12)=true→
 decide ((0:Int)≤x0)=true∧
 decide ((x0:Int)<13)=true∧
 isI .i64 tb ((Int.toNat (x0))*7+1)=true∧
 (((getI tb ((Int.toNat (x0))*7+1):Int)==x0)=true→
 decide ((0:Int)≤x0)=true∧
 decide ((x0:Int)<13)=true∧
 isB tb ((Int.toNat (x0))*7+5)=true∧
 (getB tb ((Int.toNat (x0))*7+5)=true→
 Q .normal [.ptr (.rw 15) (0),.int .i64 (0),.ptr (.rw 18) (0),.ptr (.rw 19) (0),.ptr (.rw 20) (0),.func 76 [.ptr (.rw 21) (0)],.agg ([.int .i64 (x0),.int .i64 (x1),.int .i64 (x2),.int .i64 (x3),.bool (xb),.int .i64 (x5)]:List AV),.ptr (.rw 24) (0)] ([some ⟨1,tb⟩]++(rows13 sl++[some ⟨1,([.ptr (.rw 0) (0)]:List AV)⟩,some ⟨1,([.int .i64 (to)]:List AV)⟩,some ⟨1,([.int .i64 (sg)]:List AV)⟩,some ⟨1,([.int .i64 (me)]:List AV)⟩,some ⟨1,([.bool (true)]:List AV)⟩,some ⟨1,([.func 53 [.ptr (.rw 17) (0),.ptr (.rw 14) (0),.ptr (.rw 18) (0),.ptr (.rw 16) (0)]]:List AV)⟩,some ⟨1,([.bool (true)]:List AV)⟩,some ⟨1,([.ptr (.rw 0) (0)]:List AV)⟩,some ⟨4294967291,rc⟩,some ⟨1,xr⟩,some ⟨1,([.int .i64 (x0),.int .i64 (x1),.int .i64 (x2),.int .i64 (x3),.bool (xb),.int .i64 (x5)]:List AV)⟩])))∧
 (getB tb ((Int.toNat (x0))*7+5)=false→
 decide ((0:Int)≤x0)=true∧
 decide ((x0:Int)<13)=true∧
 (isNilA tb ((Int.toNat (x0))*7+7)=true→
 False)∧
 (isNilA tb ((Int.toNat (x0))*7+7)=false→
 isPA 1 13 tb ((Int.toNat (x0))*7+7)=true∧
 Nat.beq (foA tb ((Int.toNat (x0))*7+7)) (0)=true∧
 leB (fkA 1 tb ((Int.toNat (x0))*7+7)+1) (13)=true∧
 rowsA sl (rp 13 sl)=true∧
 leB (fkA 1 tb ((Int.toNat (x0))*7+7)+1) (List.length sl)=true∧
 okU [.agg (rowA sl (fkA 1 tb ((Int.toNat (x0))*7+7)))]=true∧
 Q .normal [.ptr (.rw 15) (0),.int .i64 (0),.ptr (.rw 18) (0),.ptr (.rw 19) (0),.ptr (.rw 20) (0),.func 76 [.ptr (.rw 21) (0)],.agg ([.int .i64 (x0),.int .i64 (x1),.int .i64 (x2),.int .i64 (x3),.bool (xb),.int .i64 (x5)]:List AV),.ptr (.rw 24) (0)] ([some ⟨1,tb⟩]++(rows13 (putA sl (fkA 1 tb ((Int.toNat (x0))*7+7)) (sendXU [.agg (rowA sl (fkA 1 tb ((Int.toNat (x0))*7+7))),.int .i64 (sg)]))++[some ⟨1,([.ptr (.rw 0) (0)]:List AV)⟩,some ⟨1,([.int .i64 (to)]:List AV)⟩,some ⟨1,([.int .i64 (sg)]:List AV)⟩,some ⟨1,([.int .i64 (me)]:List AV)⟩,some ⟨1,([.bool (true)]:List AV)⟩,some ⟨1,([.func 53 [.ptr (.rw 17) (0),.ptr (.rw 14) (0),.ptr (.rw 18) (0),.ptr (.rw 16) (0)]]:List AV)⟩,some ⟨1,([.bool (true)]:List AV)⟩,some ⟨1,([.ptr (.rw 0) (0)]:List AV)⟩,some ⟨4294967291,rc⟩,some ⟨1,xr⟩,some ⟨1,([.int .i64 (x0),.int .i64 (x1),.int .i64 (x2),.int .i64 (x3),.bool (xb),.int .i64 (x5)]:List AV)⟩])))))∧
 (((getI tb ((Int.toNat (x0))*7+1):Int)==x0)=false→
 Q .normal [.ptr (.rw 15) (0),.int .i64 (0),.ptr (.rw 18) (0),.ptr (.rw 19) (0),.ptr (.rw 20) (0),.func 76 [.ptr (.rw 21) (0)],.agg ([.int .i64 (x0),.int .i64 (x1),.int .i64 (x2),.int .i64 (x3),.bool (xb),.int .i64 (x5)]:List AV),.ptr (.rw 24) (0)] ([some ⟨1,tb⟩]++(rows13 sl++[some ⟨1,([.ptr (.rw 0) (0)]:List AV)⟩,some ⟨1,([.int .i64 (to)]:List AV)⟩,some ⟨1,([.int .i64 (sg)]:List AV)⟩,some ⟨1,([.int .i64 (me)]:List AV)⟩,some ⟨1,([.bool (true)]:List AV)⟩,some ⟨1,([.func 53 [.ptr (.rw 17) (0),.ptr (.rw 14) (0),.ptr (.rw 18) (0),.ptr (.rw 16) (0)]]:List AV)⟩,some ⟨1,([.bool (true)]:List AV)⟩,some ⟨1,([.ptr (.rw 0) (0)]:List AV)⟩,some ⟨4294967291,rc⟩,some ⟨1,xr⟩,some ⟨1,([.int .i64 (x0),.int .i64 (x1),.int .i64 (x2),.int .i64 (x3),.bool (xb),.int .i64 (x5)]:List AV)⟩]))))∧
 (decide ((x0:Int)≤12)=false→
 Q .normal [.ptr (.rw 15) (0),.int .i64 (0),.ptr (.rw 18) (0),.ptr (.rw 19) (0),.ptr (.rw 20) (0),.func 76 [.ptr (.rw 21) (0)],.agg ([.int .i64 (x0),.int .i64 (x1),.int .i64 (x2),.int .i64 (x3),.bool (xb),.int .i64 (x5)]:List AV),.ptr (.rw 24) (0)] ([some ⟨1,tb⟩]++(rows13 sl++[some ⟨1,([.ptr (.rw 0) (0)]:List AV)⟩,some ⟨1,([.int .i64 (to)]:List AV)⟩,some ⟨1,([.int .i64 (sg)]:List AV)⟩,some ⟨1,([.int .i64 (me)]:List AV)⟩,some ⟨1,([.bool (true)]:List AV)⟩,some ⟨1,([.func 53 [.ptr (.rw 17) (0),.ptr (.rw 14) (0),.ptr (.rw 18) (0),.ptr (.rw 16) (0)]]:List AV)⟩,some ⟨1,([.bool (true)]:List AV)⟩,some ⟨1,([.ptr (.rw 0) (0)]:List AV)⟩,some ⟨4294967291,rc⟩,some ⟨1,xr⟩,some ⟨1,([.int .i64 (x0),.int .i64 (x1),.int .i64 (x2),.int .i64 (x3),.bool (xb),.int .i64 (x5)]:List AV)⟩]))))∧
 (decide ((x0:Int)≥1)=false→
 Q .normal [.ptr (.rw 15) (0),.int .i64 (0),.ptr (.rw 18) (0),.ptr (.rw 19) (0),.ptr (.rw 20) (0),.func 76 [.ptr (.rw 21) (0)],.agg ([.int .i64 (x0),.int .i64 (x1),.int .i64 (x2),.int .i64 (x3),.bool (xb),.int .i64 (x5)]:List AV),.ptr (.rw 24) (0)] ([some ⟨1,tb⟩]++(rows13 sl++[some ⟨1,([.ptr (.rw 0) (0)]:List AV)⟩,some ⟨1,([.int .i64 (to)]:List AV)⟩,some ⟨1,([.int .i64 (sg)]:List AV)⟩,some ⟨1,([.int .i64 (me)]:List AV)⟩,some ⟨1,([.bool (true)]:List AV)⟩,some ⟨1,([.func 53 [.ptr (.rw 17) (0),.ptr (.rw 14) (0),.ptr (.rw 18) (0),.ptr (.rw 16) (0)]]:List AV)⟩,some ⟨1,([.bool (true)]:List AV)⟩,some ⟨1,([.ptr (.rw 0) (0)]:List AV)⟩,some ⟨4294967291,rc⟩,some ⟨1,xr⟩,some ⟨1,([.int .i64 (x0),.int .i64 (x1),.int .i64 (x2),.int .i64 (x3),.bool (xb),.int .i64 (x5)]:List AV)⟩]))))∧
 (getB tb (0)=false→
 Q .normal [.ptr (.rw 15) (0),.int .i64 (0),.ptr (.rw 18) (0),.ptr (.rw 19) (0),.ptr (.rw 20) (0),.func 76 [.ptr (.rw 21) (0)],.agg ([.int .i64 (x0),.int .i64 (x1),.int .i64 (x2),.int .i64 (x3),.bool (xb),.int .i64 (x5)]:List AV),.ptr (.rw 24) (0)] ([some ⟨1,tb⟩]++(rows13 sl++[some ⟨1,([.ptr (.rw 0) (0)]:List AV)⟩,some ⟨1,([.int .i64 (to)]:List AV)⟩,some ⟨1,([.int .i64 (sg)]:List AV)⟩,some ⟨1,([.int .i64 (me)]:List AV)⟩,some ⟨1,([.bool (true)]:List AV)⟩,some ⟨1,([.func 53 [.ptr (.rw 17) (0),.ptr (.rw 14) (0),.ptr (.rw 18) (0),.ptr (.rw 16) (0)]]:List AV)⟩,some ⟨1,([.bool (true)]:List AV)⟩,some ⟨1,([.ptr (.rw 0) (0)]:List AV)⟩,some ⟨4294967291,rc⟩,some ⟨1,xr⟩,some ⟨1,([.int .i64 (x0),.int .i64 (x1),.int .i64 (x2),.int .i64 (x3),.bool (xb),.int .i64 (x5)]:List AV)⟩]))))∧
 (((me:Int)==0)=false→
 decide ((0:Int)≤x0)=true∧
 decide ((x0:Int)<13)=true∧
 isI .i64 tb ((Int.toNat (x0))*7+4)=true∧
 (((me:Int)==getI tb ((Int.toNat (x0))*7+4))=true→
 isB tb (0)=true∧
 (getB tb (0)=true→
 (decide ((x0:Int)≥1)=true→
 (decide ((x0:Int)≤12)=true→
 decide ((0:Int)≤x0)=true∧
 decide ((x0:Int)<13)=true∧
 isI .i64 tb ((Int.toNat (x0))*7+1)=true∧
 (((getI tb ((Int.toNat (x0))*7+1):Int)==x0)=true→
 decide ((0:Int)≤x0)=true∧
 decide ((x0:Int)<13)=true∧
 isB tb ((Int.toNat (x0))*7+5)=true∧
 (getB tb ((Int.toNat (x0))*7+5)=true→
 Q .normal [.ptr (.rw 15) (0),.int .i64 (0),.ptr (.rw 18) (0),.ptr (.rw 19) (0),.ptr (.rw 20) (0),.func 76 [.ptr (.rw 21) (0)],.agg ([.int .i64 (x0),.int .i64 (x1),.int .i64 (x2),.int .i64 (x3),.bool (xb),.int .i64 (x5)]:List AV),.ptr (.rw 24) (0)] ([some ⟨1,tb⟩]++(rows13 sl++[some ⟨1,([.ptr (.rw 0) (0)]:List AV)⟩,some ⟨1,([.int .i64 (to)]:List AV)⟩,some ⟨1,([.int .i64 (sg)]:List AV)⟩,some ⟨1,([.int .i64 (me)]:List AV)⟩,some ⟨1,([.bool (true)]:List AV)⟩,some ⟨1,([.func 53 [.ptr (.rw 17) (0),.ptr (.rw 14) (0),.ptr (.rw 18) (0),.ptr (.rw 16) (0)]]:List AV)⟩,some ⟨1,([.bool (true)]:List AV)⟩,some ⟨1,([.ptr (.rw 0) (0)]:List AV)⟩,some ⟨4294967291,rc⟩,some ⟨1,xr⟩,some ⟨1,([.int .i64 (x0),.int .i64 (x1),.int .i64 (x2),.int .i64 (x3),.bool (xb),.int .i64 (x5)]:List AV)⟩])))∧
 (getB tb ((Int.toNat (x0))*7+5)=false→
 decide ((0:Int)≤x0)=true∧
 decide ((x0:Int)<13)=true∧
 (isNilA tb ((Int.toNat (x0))*7+7)=true→
 False)∧
 (isNilA tb ((Int.toNat (x0))*7+7)=false→
 isPA 1 13 tb ((Int.toNat (x0))*7+7)=true∧
 Nat.beq (foA tb ((Int.toNat (x0))*7+7)) (0)=true∧
 leB (fkA 1 tb ((Int.toNat (x0))*7+7)+1) (13)=true∧
 rowsA sl (rp 13 sl)=true∧
 leB (fkA 1 tb ((Int.toNat (x0))*7+7)+1) (List.length sl)=true∧
 okU [.agg (rowA sl (fkA 1 tb ((Int.toNat (x0))*7+7)))]=true∧
 Q .normal [.ptr (.rw 15) (0),.int .i64 (0),.ptr (.rw 18) (0),.ptr (.rw 19) (0),.ptr (.rw 20) (0),.func 76 [.ptr (.rw 21) (0)],.agg ([.int .i64 (x0),.int .i64 (x1),.int .i64 (x2),.int .i64 (x3),.bool (xb),.int .i64 (x5)]:List AV),.ptr (.rw 24) (0)] ([some ⟨1,tb⟩]++(rows13 (putA sl (fkA 1 tb ((Int.toNat (x0))*7+7)) (sendXU [.agg (rowA sl (fkA 1 tb ((Int.toNat (x0))*7+7))),.int .i64 (sg)]))++[some ⟨1,([.ptr (.rw 0) (0)]:List AV)⟩,some ⟨1,([.int .i64 (to)]:List AV)⟩,some ⟨1,([.int .i64 (sg)]:List AV)⟩,some ⟨1,([.int .i64 (me)]:List AV)⟩,some ⟨1,([.bool (true)]:List AV)⟩,some ⟨1,([.func 53 [.ptr (.rw 17) (0),.ptr (.rw 14) (0),.ptr (.rw 18) (0),.ptr (.rw 16) (0)]]:List AV)⟩,some ⟨1,([.bool (true)]:List AV)⟩,some ⟨1,([.ptr (.rw 0) (0)]:List AV)⟩,some ⟨4294967291,rc⟩,some ⟨1,xr⟩,some ⟨1,([.int .i64 (x0),.int .i64 (x1),.int .i64 (x2),.int .i64 (x3),.bool (xb),.int .i64 (x5)]:List AV)⟩])))))∧
 (((getI tb ((Int.toNat (x0))*7+1):Int)==x0)=false→
 Q .normal [.ptr (.rw 15) (0),.int .i64 (0),.ptr (.rw 18) (0),.ptr (.rw 19) (0),.ptr (.rw 20) (0),.func 76 [.ptr (.rw 21) (0)],.agg ([.int .i64 (x0),.int .i64 (x1),.int .i64 (x2),.int .i64 (x3),.bool (xb),.int .i64 (x5)]:List AV),.ptr (.rw 24) (0)] ([some ⟨1,tb⟩]++(rows13 sl++[some ⟨1,([.ptr (.rw 0) (0)]:List AV)⟩,some ⟨1,([.int .i64 (to)]:List AV)⟩,some ⟨1,([.int .i64 (sg)]:List AV)⟩,some ⟨1,([.int .i64 (me)]:List AV)⟩,some ⟨1,([.bool (true)]:List AV)⟩,some ⟨1,([.func 53 [.ptr (.rw 17) (0),.ptr (.rw 14) (0),.ptr (.rw 18) (0),.ptr (.rw 16) (0)]]:List AV)⟩,some ⟨1,([.bool (true)]:List AV)⟩,some ⟨1,([.ptr (.rw 0) (0)]:List AV)⟩,some ⟨4294967291,rc⟩,some ⟨1,xr⟩,some ⟨1,([.int .i64 (x0),.int .i64 (x1),.int .i64 (x2),.int .i64 (x3),.bool (xb),.int .i64 (x5)]:List AV)⟩]))))∧
 (decide ((x0:Int)≤12)=false→
 Q .normal [.ptr (.rw 15) (0),.int .i64 (0),.ptr (.rw 18) (0),.ptr (.rw 19) (0),.ptr (.rw 20) (0),.func 76 [.ptr (.rw 21) (0)],.agg ([.int .i64 (x0),.int .i64 (x1),.int .i64 (x2),.int .i64 (x3),.bool (xb),.int .i64 (x5)]:List AV),.ptr (.rw 24) (0)] ([some ⟨1,tb⟩]++(rows13 sl++[some ⟨1,([.ptr (.rw 0) (0)]:List AV)⟩,some ⟨1,([.int .i64 (to)]:List AV)⟩,some ⟨1,([.int .i64 (sg)]:List AV)⟩,some ⟨1,([.int .i64 (me)]:List AV)⟩,some ⟨1,([.bool (true)]:List AV)⟩,some ⟨1,([.func 53 [.ptr (.rw 17) (0),.ptr (.rw 14) (0),.ptr (.rw 18) (0),.ptr (.rw 16) (0)]]:List AV)⟩,some ⟨1,([.bool (true)]:List AV)⟩,some ⟨1,([.ptr (.rw 0) (0)]:List AV)⟩,some ⟨4294967291,rc⟩,some ⟨1,xr⟩,some ⟨1,([.int .i64 (x0),.int .i64 (x1),.int .i64 (x2),.int .i64 (x3),.bool (xb),.int .i64 (x5)]:List AV)⟩]))))∧
 (decide ((x0:Int)≥1)=false→
 Q .normal [.ptr (.rw 15) (0),.int .i64 (0),.ptr (.rw 18) (0),.ptr (.rw 19) (0),.ptr (.rw 20) (0),.func 76 [.ptr (.rw 21) (0)],.agg ([.int .i64 (x0),.int .i64 (x1),.int .i64 (x2),.int .i64 (x3),.bool (xb),.int .i64 (x5)]:List AV),.ptr (.rw 24) (0)] ([some ⟨1,tb⟩]++(rows13 sl++[some ⟨1,([.ptr (.rw 0) (0)]:List AV)⟩,some ⟨1,([.int .i64 (to)]:List AV)⟩,some ⟨1,([.int .i64 (sg)]:List AV)⟩,some ⟨1,([.int .i64 (me)]:List AV)⟩,some ⟨1,([.bool (true)]:List AV)⟩,some ⟨1,([.func 53 [.ptr (.rw 17) (0),.ptr (.rw 14) (0),.ptr (.rw 18) (0),.ptr (.rw 16) (0)]]:List AV)⟩,some ⟨1,([.bool (true)]:List AV)⟩,some ⟨1,([.ptr (.rw 0) (0)]:List AV)⟩,some ⟨4294967291,rc⟩,some ⟨1,xr⟩,some ⟨1,([.int .i64 (x0),.int .i64 (x1),.int .i64 (x2),.int .i64 (x3),.bool (xb),.int .i64 (x5)]:List AV)⟩]))))∧
 (getB tb (0)=false→
 Q .normal [.ptr (.rw 15) (0),.int .i64 (0),.ptr (.rw 18) (0),.ptr (.rw 19) (0),.ptr (.rw 20) (0),.func 76 [.ptr (.rw 21) (0)],.agg ([.int .i64 (x0),.int .i64 (x1),.int .i64 (x2),.int .i64 (x3),.bool (xb),.int .i64 (x5)]:List AV),.ptr (.rw 24) (0)] ([some ⟨1,tb⟩]++(rows13 sl++[some ⟨1,([.ptr (.rw 0) (0)]:List AV)⟩,some ⟨1,([.int .i64 (to)]:List AV)⟩,some ⟨1,([.int .i64 (sg)]:List AV)⟩,some ⟨1,([.int .i64 (me)]:List AV)⟩,some ⟨1,([.bool (true)]:List AV)⟩,some ⟨1,([.func 53 [.ptr (.rw 17) (0),.ptr (.rw 14) (0),.ptr (.rw 18) (0),.ptr (.rw 16) (0)]]:List AV)⟩,some ⟨1,([.bool (true)]:List AV)⟩,some ⟨1,([.ptr (.rw 0) (0)]:List AV)⟩,some ⟨4294967291,rc⟩,some ⟨1,xr⟩,some ⟨1,([.int .i64 (x0),.int .i64 (x1),.int .i64 (x2),.int .i64 (x3),.bool (xb),.int .i64 (x5)]:List AV)⟩]))))∧
 (((me:Int)==getI tb ((Int.toNat (x0))*7+4))=false→
 Q .normal [.ptr (.rw 15) (0),.int .i64 (0),.ptr (.rw 18) (0),.ptr (.rw 19) (0),.ptr (.rw 20) (0),.func 76 [.ptr (.rw 21) (0)],.agg ([.int .i64 (x0),.int .i64 (x1),.int .i64 (x2),.int .i64 (x3),.bool (xb),.int .i64 (x5)]:List AV),.ptr (.rw 24) (0)] ([some ⟨1,tb⟩]++(rows13 sl++[some ⟨1,([.ptr (.rw 0) (0)]:List AV)⟩,some ⟨1,([.int .i64 (to)]:List AV)⟩,some ⟨1,([.int .i64 (sg)]:List AV)⟩,some ⟨1,([.int .i64 (me)]:List AV)⟩,some ⟨1,([.bool (st)]:List AV)⟩,some ⟨1,([.func 53 [.ptr (.rw 17) (0),.ptr (.rw 14) (0),.ptr (.rw 18) (0),.ptr (.rw 16) (0)]]:List AV)⟩,some ⟨1,([.bool (true)]:List AV)⟩,some ⟨1,([.ptr (.rw 0) (0)]:List AV)⟩,some ⟨4294967291,rc⟩,some ⟨1,xr⟩,some ⟨1,([.int .i64 (x0),.int .i64 (x1),.int .i64 (x2),.int .i64 (x3),.bool (xb),.int .i64 (x5)]:List AV)⟩]))))))∧
 (((IntKind.wrap .i64 (0 - (x2)):Int)==to)=false→
 Q .normal [.ptr (.rw 15) (0),.int .i64 (0),.ptr (.rw 18) (0),.ptr (.rw 19) (0),.ptr (.rw 20) (0),.func 76 [.ptr (.rw 21) (0)],.agg ([.int .i64 (x0),.int .i64 (x1),.int .i64 (x2),.int .i64 (x3),.bool (xb),.int .i64 (x5)]:List AV),.ptr (.rw 24) (0)] ([some ⟨1,tb⟩]++(rows13 sl++[some ⟨1,([.ptr (.rw 0) (0)]:List AV)⟩,some ⟨1,([.int .i64 (to)]:List AV)⟩,some ⟨1,([.int .i64 (sg)]:List AV)⟩,some ⟨1,([.int .i64 (me)]:List AV)⟩,some ⟨1,([.bool (st)]:List AV)⟩,some ⟨1,([.func 53 [.ptr (.rw 17) (0),.ptr (.rw 14) (0),.ptr (.rw 18) (0),.ptr (.rw 16) (0)]]:List AV)⟩,some ⟨1,([.bool (sm)]:List AV)⟩,some ⟨1,([.ptr (.rw 0) (0)]:List AV)⟩,some ⟨4294967291,rc⟩,some ⟨1,xr⟩,some ⟨1,([.int .i64 (x0),.int .i64 (x1),.int .i64 (x2),.int .i64 (x3),.bool (xb),.int .i64 (x5)]:List AV)⟩]))))):=by kernel_rfl
end Go.Am
