/-
  ProcsParents: trees. Tables of processes: parents, ends: what stays so whatever is done.
-/
import Derived.Test.YtkabjomhnddnoaaPart27
import Derived.Test.YtkabjomhnddnoaaPart26
import Derived.Test.YtkabjomhnddnoaaPart22
import Derived.Test.YtkabjomhnddnoaaBase10
import Derived.Test.YtkabjomhnddnoaaPart21
import Derived.Test.YtkabjomhnddnoaaPart24
namespace Go.Am
open Go.Proofs Crc
set_option maxRecDepth 100000
theorem pp_k (G:Nat→List AV) (okP1:List AV→Bool) (x:List AV) (k n i c j:Nat) (at_:Int) (Q:Ex→List AV→Hp→Prop) (R:AV→Hp→Prop):vT G Q R (dloop (Dc Try.prog [] [(16,objQ 2101 okP1 tsP .same tellK)] [] 0) 300 20 0 (loopN Try.f6 2) 93 [0,3,4,5,7,10,11] [.slice true (.ro (.var 2 k)) (.lit 0) (.var 3 n),.ptr (.rw 0) (.lit 0),.ptr (.rw 14) (.lit 0),.int .i64 (.ofN (.var 4 i)),.int .i64 (.ofN (.var 6 c)),.int .i64 (.var 7 at_),.int .i64 (.ofN (.var 8 j))] (objD 1 (.var 5 x)++objE 15 (.var 5 x)))=(
  (decide ((((j:Nat):Int):Int)<12)=true→
 (decide ((at_:Int)>1)=true→
 (okP1) (okA (1) x)=true∧
 Q .normal [.slice true (.ro (k)) (0) (n),.ptr (.rw 0) (0),.ptr (.rw 14) (0),.int .i64 (((i:Nat):Int)),.int .i64 (((c:Nat):Int)),.int .i64 ((xI1 tellPar) [.agg x,.int .i64 (at_)]),.int .i64 (IntKind.wrap .i64 (((j:Nat):Int)+1))] (objL (1) x++(objU (15) x++[some ⟨1,([.int .i64 ((xI1 tellNum) [.agg x,.int .i64 (at_)]),.int .i64 ((xI1 tellPar) [.agg x,.int .i64 (at_)]),.int .i64 ((xI1 tellGrp) [.agg x,.int .i64 (at_)]),.int .i64 ((xI1 tellUsr) [.agg x,.int .i64 (at_)]),.bool ((xB1 tellEn) [.agg x,.int .i64 (at_)]),.int .i64 ((xI1 tellSt) [.agg x,.int .i64 (at_)])]:List AV)⟩])))∧
 (decide ((at_:Int)>1)=false→
 Q (.exit 4) [.slice true (.ro (k)) (0) (n),.ptr (.rw 0) (0),.ptr (.rw 14) (0),.int .i64 (((i:Nat):Int)),.int .i64 (((c:Nat):Int)),.int .i64 (at_),.int .i64 (((j:Nat):Int))] (objL (1) x++objU (15) x)))∧
 (decide ((((j:Nat):Int):Int)<12)=false→
 Q (.exit 4) [.slice true (.ro (k)) (0) (n),.ptr (.rw 0) (0),.ptr (.rw 14) (0),.int .i64 (((i:Nat):Int)),.int .i64 (((c:Nat):Int)),.int .i64 (at_),.int .i64 (((j:Nat):Int))] (objL (1) x++objU (15) x))):=by kernel_rfl
theorem pp_n (G:Nat→List AV) (okP1 rl:List AV→Bool) (x:List AV) (k n i c:Nat) (fin:Int) (Q:Ex→List AV→Hp→Prop) (R:AV→Hp→Prop):vT G Q R (dloop (Dc Try.prog [] [(16,objQ 2101 okP1 tsP .same tellK),(20,objQ 2101 okP1 tsP .same livesK),(22,sigQ 2101 okP1),(25,pendS sideP)] [DLat 2492 (rl) 4 93 [0,3,4,5,7,10,11] (.one (.exit 4) [.slice true (.ro (.var 2 k)) (.lit 0) (.var 3 n),.ptr (.rw 0) (.lit 0),.ptr (.rw 14) (.lit 0),.int .i64 (.ofN (.var 4 i)),.int .i64 (.ofN (.var 6 c)),.int .i64 (.var 9 fin),.undef] (objD 1 (.var 5 x)++objE 15 (.var 5 x)))] 0) 600 20 0 (loopN Try.f6 1) 93 [0,3,4,5,7] [.slice true (.ro (.var 2 k)) (.lit 0) (.var 3 n),.ptr (.rw 0) (.lit 0),.ptr (.rw 14) (.lit 0),.int .i64 (.ofN (.var 4 i)),.int .i64 (.ofN (.var 6 c))] (objD 1 (.var 5 x)++objE 15 (.var 5 x)))=(
  (decide ((((c:Nat):Int):Int)≤12)=true→
 (okP1) (okA (1) x)=true∧
 ((xB1 isP) [.agg x,.int .i64 (((c:Nat):Int))]=true→
 ((((xI1 tellPar) [.agg x,.int .i64 (((c:Nat):Int))]:Int)==1)=true→
 ((xB1 tellEn) [.agg x,.int .i64 (((c:Nat):Int))]=true→
 (okP1) (okA (1) x)=true∧
 (xB1 isP) [.agg x,.int .i64 (((c:Nat):Int))]=true∧
 okU [.agg ((sgXU) [.agg x,.int .i64 (((c:Nat):Int))])]=true∧
 (decide ((((pendNU [.agg ((sgXU) [.agg x,.int .i64 (((c:Nat):Int))])]:Nat):Int):Int)>0)=true→
 Q .ret [.slice true (.ro (k)) (0) (n),.ptr (.rw 0) (0),.ptr (.rw 14) (0),.int .i64 (((i:Nat):Int)),.int .i64 (((c:Nat):Int))] (objL (1) x++(objU (15) x++[some ⟨1,([.int .i64 ((xI1 tellNum) [.agg x,.int .i64 (((c:Nat):Int))]),.int .i64 ((xI1 tellPar) [.agg x,.int .i64 (((c:Nat):Int))]),.int .i64 ((xI1 tellGrp) [.agg x,.int .i64 (((c:Nat):Int))]),.int .i64 ((xI1 tellUsr) [.agg x,.int .i64 (((c:Nat):Int))]),.bool ((xB1 tellEn) [.agg x,.int .i64 (((c:Nat):Int))]),.int .i64 ((xI1 tellSt) [.agg x,.int .i64 (((c:Nat):Int))])]:List AV)⟩,some ⟨1,((sgXU) [.agg x,.int .i64 (((c:Nat):Int))])⟩,some ⟨1,(pendU [.agg ((sgXU) [.agg x,.int .i64 (((c:Nat):Int))])])⟩])))∧
 (decide ((((pendNU [.agg ((sgXU) [.agg x,.int .i64 (((c:Nat):Int))])]:Nat):Int):Int)>0)=false→
 (rl) [.agg ([.slice true (.ro (k)) (0) (n),.ptr (.rw 0) (0),.ptr (.rw 14) (0),.int .i64 (((i:Nat):Int)),.int .i64 (((c:Nat):Int)),.int .i64 (((c:Nat):Int)),.int .i64 (0)]:List AV),.agg ([.tup [.int .i64 (1),.agg ((tabF tsP) [.int .i64 (1),.agg x])],.tup [.int .i64 (1),.agg ((setF tsP 0) [.agg x])],.tup [.int .i64 (1),.agg ((setF tsP 1) [.agg x])],.tup [.int .i64 (1),.agg ((setF tsP 2) [.agg x])],.tup [.int .i64 (1),.agg ((setF tsP 3) [.agg x])],.tup [.int .i64 (1),.agg ((setF tsP 4) [.agg x])],.tup [.int .i64 (1),.agg ((setF tsP 5) [.agg x])],.tup [.int .i64 (1),.agg ((setF tsP 6) [.agg x])],.tup [.int .i64 (1),.agg ((setF tsP 7) [.agg x])],.tup [.int .i64 (1),.agg ((setF tsP 8) [.agg x])],.tup [.int .i64 (1),.agg ((setF tsP 9) [.agg x])],.tup [.int .i64 (1),.agg ((setF tsP 10) [.agg x])],.tup [.int .i64 (1),.agg ((setF tsP 11) [.agg x])],.tup [.int .i64 (1),.agg ((setF tsP 12) [.agg x])],.tup [.int .i64 (1),.agg ((tabF tsR) [.int .i64 (15),.agg x])],.tup [.int .i64 (1),.agg ((setF tsR 0) [.agg x])],.tup [.int .i64 (1),.agg ((setF tsR 1) [.agg x])],.tup [.int .i64 (1),.agg ((setF tsR 2) [.agg x])],.tup [.int .i64 (1),.agg ((setF tsR 3) [.agg x])],.tup [.int .i64 (1),.agg ((setF tsR 4) [.agg x])],.tup [.int .i64 (1),.agg ((setF tsR 5) [.agg x])],.tup [.int .i64 (1),.agg ((setF tsR 6) [.agg x])],.tup [.int .i64 (1),.agg ((setF tsR 7) [.agg x])],.tup [.int .i64 (1),.agg ((setF tsR 8) [.agg x])],.tup [.int .i64 (1),.agg ((setF tsR 9) [.agg x])],.tup [.int .i64 (1),.agg ((setF tsR 10) [.agg x])],.tup [.int .i64 (1),.agg ((setF tsR 11) [.agg x])],.tup [.int .i64 (1),.agg ((setF tsR 12) [.agg x])],.tup [.int .i64 (1),.agg ([.int .i64 ((xI1 tellNum) [.agg x,.int .i64 (((c:Nat):Int))]),.int .i64 ((xI1 tellPar) [.agg x,.int .i64 (((c:Nat):Int))]),.int .i64 ((xI1 tellGrp) [.agg x,.int .i64 (((c:Nat):Int))]),.int .i64 ((xI1 tellUsr) [.agg x,.int .i64 (((c:Nat):Int))]),.bool ((xB1 tellEn) [.agg x,.int .i64 (((c:Nat):Int))]),.int .i64 ((xI1 tellSt) [.agg x,.int .i64 (((c:Nat):Int))])]:List AV)],.tup [.int .i64 (1),.agg ((sgXU) [.agg x,.int .i64 (((c:Nat):Int))])],.tup [.int .i64 (1),.agg (pendU [.agg ((sgXU) [.agg x,.int .i64 (((c:Nat):Int))])])]]:List AV)]=true∧
 (decide ((fin:Int)>1)=true→
 Q .ret [.slice true (.ro (k)) (0) (n),.ptr (.rw 0) (0),.ptr (.rw 14) (0),.int .i64 (((i:Nat):Int)),.int .i64 (((c:Nat):Int))] (objL (1) x++objU (15) x))∧
 (decide ((fin:Int)>1)=false→
 Q .normal [.slice true (.ro (k)) (0) (n),.ptr (.rw 0) (0),.ptr (.rw 14) (0),.int .i64 (((i:Nat):Int)),.int .i64 (IntKind.wrap .i64 (((c:Nat):Int)+1))] (objL (1) x++objU (15) x))))∧
 ((xB1 tellEn) [.agg x,.int .i64 (((c:Nat):Int))]=false→
 (rl) [.agg ([.slice true (.ro (k)) (0) (n),.ptr (.rw 0) (0),.ptr (.rw 14) (0),.int .i64 (((i:Nat):Int)),.int .i64 (((c:Nat):Int)),.int .i64 (((c:Nat):Int)),.int .i64 (0)]:List AV),.agg ([.tup [.int .i64 (1),.agg ((tabF tsP) [.int .i64 (1),.agg x])],.tup [.int .i64 (1),.agg ((setF tsP 0) [.agg x])],.tup [.int .i64 (1),.agg ((setF tsP 1) [.agg x])],.tup [.int .i64 (1),.agg ((setF tsP 2) [.agg x])],.tup [.int .i64 (1),.agg ((setF tsP 3) [.agg x])],.tup [.int .i64 (1),.agg ((setF tsP 4) [.agg x])],.tup [.int .i64 (1),.agg ((setF tsP 5) [.agg x])],.tup [.int .i64 (1),.agg ((setF tsP 6) [.agg x])],.tup [.int .i64 (1),.agg ((setF tsP 7) [.agg x])],.tup [.int .i64 (1),.agg ((setF tsP 8) [.agg x])],.tup [.int .i64 (1),.agg ((setF tsP 9) [.agg x])],.tup [.int .i64 (1),.agg ((setF tsP 10) [.agg x])],.tup [.int .i64 (1),.agg ((setF tsP 11) [.agg x])],.tup [.int .i64 (1),.agg ((setF tsP 12) [.agg x])],.tup [.int .i64 (1),.agg ((tabF tsR) [.int .i64 (15),.agg x])],.tup [.int .i64 (1),.agg ((setF tsR 0) [.agg x])],.tup [.int .i64 (1),.agg ((setF tsR 1) [.agg x])],.tup [.int .i64 (1),.agg ((setF tsR 2) [.agg x])],.tup [.int .i64 (1),.agg ((setF tsR 3) [.agg x])],.tup [.int .i64 (1),.agg ((setF tsR 4) [.agg x])],.tup [.int .i64 (1),.agg ((setF tsR 5) [.agg x])],.tup [.int .i64 (1),.agg ((setF tsR 6) [.agg x])],.tup [.int .i64 (1),.agg ((setF tsR 7) [.agg x])],.tup [.int .i64 (1),.agg ((setF tsR 8) [.agg x])],.tup [.int .i64 (1),.agg ((setF tsR 9) [.agg x])],.tup [.int .i64 (1),.agg ((setF tsR 10) [.agg x])],.tup [.int .i64 (1),.agg ((setF tsR 11) [.agg x])],.tup [.int .i64 (1),.agg ((setF tsR 12) [.agg x])],.tup [.int .i64 (1),.agg ([.int .i64 ((xI1 tellNum) [.agg x,.int .i64 (((c:Nat):Int))]),.int .i64 ((xI1 tellPar) [.agg x,.int .i64 (((c:Nat):Int))]),.int .i64 ((xI1 tellGrp) [.agg x,.int .i64 (((c:Nat):Int))]),.int .i64 ((xI1 tellUsr) [.agg x,.int .i64 (((c:Nat):Int))]),.bool ((xB1 tellEn) [.agg x,.int .i64 (((c:Nat):Int))]),.int .i64 ((xI1 tellSt) [.agg x,.int .i64 (((c:Nat):Int))])]:List AV)]]:List AV)]=true∧
 (decide ((fin:Int)>1)=true→
 Q .ret [.slice true (.ro (k)) (0) (n),.ptr (.rw 0) (0),.ptr (.rw 14) (0),.int .i64 (((i:Nat):Int)),.int .i64 (((c:Nat):Int))] (objL (1) x++objU (15) x))∧
 (decide ((fin:Int)>1)=false→
 Q .normal [.slice true (.ro (k)) (0) (n),.ptr (.rw 0) (0),.ptr (.rw 14) (0),.int .i64 (((i:Nat):Int)),.int .i64 (IntKind.wrap .i64 (((c:Nat):Int)+1))] (objL (1) x++objU (15) x))))∧
 ((((xI1 tellPar) [.agg x,.int .i64 (((c:Nat):Int))]:Int)==1)=false→
 (okP1) (okA (1) x)=true∧
 ((xB1 live) [.agg x,.int .i64 ((xI1 tellPar) [.agg x,.int .i64 (((c:Nat):Int))])]=true→
 ((xB1 tellEn) [.agg x,.int .i64 (((c:Nat):Int))]=true→
 (okP1) (okA (1) x)=true∧
 (xB1 isP) [.agg x,.int .i64 (((c:Nat):Int))]=true∧
 okU [.agg ((sgXU) [.agg x,.int .i64 (((c:Nat):Int))])]=true∧
 (decide ((((pendNU [.agg ((sgXU) [.agg x,.int .i64 (((c:Nat):Int))])]:Nat):Int):Int)>0)=true→
 Q .ret [.slice true (.ro (k)) (0) (n),.ptr (.rw 0) (0),.ptr (.rw 14) (0),.int .i64 (((i:Nat):Int)),.int .i64 (((c:Nat):Int))] (objL (1) x++(objU (15) x++[some ⟨1,([.int .i64 ((xI1 tellNum) [.agg x,.int .i64 (((c:Nat):Int))]),.int .i64 ((xI1 tellPar) [.agg x,.int .i64 (((c:Nat):Int))]),.int .i64 ((xI1 tellGrp) [.agg x,.int .i64 (((c:Nat):Int))]),.int .i64 ((xI1 tellUsr) [.agg x,.int .i64 (((c:Nat):Int))]),.bool ((xB1 tellEn) [.agg x,.int .i64 (((c:Nat):Int))]),.int .i64 ((xI1 tellSt) [.agg x,.int .i64 (((c:Nat):Int))])]:List AV)⟩,some ⟨1,((sgXU) [.agg x,.int .i64 (((c:Nat):Int))])⟩,some ⟨1,(pendU [.agg ((sgXU) [.agg x,.int .i64 (((c:Nat):Int))])])⟩])))∧
 (decide ((((pendNU [.agg ((sgXU) [.agg x,.int .i64 (((c:Nat):Int))])]:Nat):Int):Int)>0)=false→
 (rl) [.agg ([.slice true (.ro (k)) (0) (n),.ptr (.rw 0) (0),.ptr (.rw 14) (0),.int .i64 (((i:Nat):Int)),.int .i64 (((c:Nat):Int)),.int .i64 (((c:Nat):Int)),.int .i64 (0)]:List AV),.agg ([.tup [.int .i64 (1),.agg ((tabF tsP) [.int .i64 (1),.agg x])],.tup [.int .i64 (1),.agg ((setF tsP 0) [.agg x])],.tup [.int .i64 (1),.agg ((setF tsP 1) [.agg x])],.tup [.int .i64 (1),.agg ((setF tsP 2) [.agg x])],.tup [.int .i64 (1),.agg ((setF tsP 3) [.agg x])],.tup [.int .i64 (1),.agg ((setF tsP 4) [.agg x])],.tup [.int .i64 (1),.agg ((setF tsP 5) [.agg x])],.tup [.int .i64 (1),.agg ((setF tsP 6) [.agg x])],.tup [.int .i64 (1),.agg ((setF tsP 7) [.agg x])],.tup [.int .i64 (1),.agg ((setF tsP 8) [.agg x])],.tup [.int .i64 (1),.agg ((setF tsP 9) [.agg x])],.tup [.int .i64 (1),.agg ((setF tsP 10) [.agg x])],.tup [.int .i64 (1),.agg ((setF tsP 11) [.agg x])],.tup [.int .i64 (1),.agg ((setF tsP 12) [.agg x])],.tup [.int .i64 (1),.agg ((tabF tsR) [.int .i64 (15),.agg x])],.tup [.int .i64 (1),.agg ((setF tsR 0) [.agg x])],.tup [.int .i64 (1),.agg ((setF tsR 1) [.agg x])],.tup [.int .i64 (1),.agg ((setF tsR 2) [.agg x])],.tup [.int .i64 (1),.agg ((setF tsR 3) [.agg x])],.tup [.int .i64 (1),.agg ((setF tsR 4) [.agg x])],.tup [.int .i64 (1),.agg ((setF tsR 5) [.agg x])],.tup [.int .i64 (1),.agg ((setF tsR 6) [.agg x])],.tup [.int .i64 (1),.agg ((setF tsR 7) [.agg x])],.tup [.int .i64 (1),.agg ((setF tsR 8) [.agg x])],.tup [.int .i64 (1),.agg ((setF tsR 9) [.agg x])],.tup [.int .i64 (1),.agg ((setF tsR 10) [.agg x])],.tup [.int .i64 (1),.agg ((setF tsR 11) [.agg x])],.tup [.int .i64 (1),.agg ((setF tsR 12) [.agg x])],.tup [.int .i64 (1),.agg ([.int .i64 ((xI1 tellNum) [.agg x,.int .i64 (((c:Nat):Int))]),.int .i64 ((xI1 tellPar) [.agg x,.int .i64 (((c:Nat):Int))]),.int .i64 ((xI1 tellGrp) [.agg x,.int .i64 (((c:Nat):Int))]),.int .i64 ((xI1 tellUsr) [.agg x,.int .i64 (((c:Nat):Int))]),.bool ((xB1 tellEn) [.agg x,.int .i64 (((c:Nat):Int))]),.int .i64 ((xI1 tellSt) [.agg x,.int .i64 (((c:Nat):Int))])]:List AV)],.tup [.int .i64 (1),.agg ((sgXU) [.agg x,.int .i64 (((c:Nat):Int))])],.tup [.int .i64 (1),.agg (pendU [.agg ((sgXU) [.agg x,.int .i64 (((c:Nat):Int))])])]]:List AV)]=true∧
 (decide ((fin:Int)>1)=true→
 Q .ret [.slice true (.ro (k)) (0) (n),.ptr (.rw 0) (0),.ptr (.rw 14) (0),.int .i64 (((i:Nat):Int)),.int .i64 (((c:Nat):Int))] (objL (1) x++objU (15) x))∧
 (decide ((fin:Int)>1)=false→
 Q .normal [.slice true (.ro (k)) (0) (n),.ptr (.rw 0) (0),.ptr (.rw 14) (0),.int .i64 (((i:Nat):Int)),.int .i64 (IntKind.wrap .i64 (((c:Nat):Int)+1))] (objL (1) x++objU (15) x))))∧
 ((xB1 tellEn) [.agg x,.int .i64 (((c:Nat):Int))]=false→
 (rl) [.agg ([.slice true (.ro (k)) (0) (n),.ptr (.rw 0) (0),.ptr (.rw 14) (0),.int .i64 (((i:Nat):Int)),.int .i64 (((c:Nat):Int)),.int .i64 (((c:Nat):Int)),.int .i64 (0)]:List AV),.agg ([.tup [.int .i64 (1),.agg ((tabF tsP) [.int .i64 (1),.agg x])],.tup [.int .i64 (1),.agg ((setF tsP 0) [.agg x])],.tup [.int .i64 (1),.agg ((setF tsP 1) [.agg x])],.tup [.int .i64 (1),.agg ((setF tsP 2) [.agg x])],.tup [.int .i64 (1),.agg ((setF tsP 3) [.agg x])],.tup [.int .i64 (1),.agg ((setF tsP 4) [.agg x])],.tup [.int .i64 (1),.agg ((setF tsP 5) [.agg x])],.tup [.int .i64 (1),.agg ((setF tsP 6) [.agg x])],.tup [.int .i64 (1),.agg ((setF tsP 7) [.agg x])],.tup [.int .i64 (1),.agg ((setF tsP 8) [.agg x])],.tup [.int .i64 (1),.agg ((setF tsP 9) [.agg x])],.tup [.int .i64 (1),.agg ((setF tsP 10) [.agg x])],.tup [.int .i64 (1),.agg ((setF tsP 11) [.agg x])],.tup [.int .i64 (1),.agg ((setF tsP 12) [.agg x])],.tup [.int .i64 (1),.agg ((tabF tsR) [.int .i64 (15),.agg x])],.tup [.int .i64 (1),.agg ((setF tsR 0) [.agg x])],.tup [.int .i64 (1),.agg ((setF tsR 1) [.agg x])],.tup [.int .i64 (1),.agg ((setF tsR 2) [.agg x])],.tup [.int .i64 (1),.agg ((setF tsR 3) [.agg x])],.tup [.int .i64 (1),.agg ((setF tsR 4) [.agg x])],.tup [.int .i64 (1),.agg ((setF tsR 5) [.agg x])],.tup [.int .i64 (1),.agg ((setF tsR 6) [.agg x])],.tup [.int .i64 (1),.agg ((setF tsR 7) [.agg x])],.tup [.int .i64 (1),.agg ((setF tsR 8) [.agg x])],.tup [.int .i64 (1),.agg ((setF tsR 9) [.agg x])],.tup [.int .i64 (1),.agg ((setF tsR 10) [.agg x])],.tup [.int .i64 (1),.agg ((setF tsR 11) [.agg x])],.tup [.int .i64 (1),.agg ((setF tsR 12) [.agg x])],.tup [.int .i64 (1),.agg ([.int .i64 ((xI1 tellNum) [.agg x,.int .i64 (((c:Nat):Int))]),.int .i64 ((xI1 tellPar) [.agg x,.int .i64 (((c:Nat):Int))]),.int .i64 ((xI1 tellGrp) [.agg x,.int .i64 (((c:Nat):Int))]),.int .i64 ((xI1 tellUsr) [.agg x,.int .i64 (((c:Nat):Int))]),.bool ((xB1 tellEn) [.agg x,.int .i64 (((c:Nat):Int))]),.int .i64 ((xI1 tellSt) [.agg x,.int .i64 (((c:Nat):Int))])]:List AV)]]:List AV)]=true∧
 (decide ((fin:Int)>1)=true→
 Q .ret [.slice true (.ro (k)) (0) (n),.ptr (.rw 0) (0),.ptr (.rw 14) (0),.int .i64 (((i:Nat):Int)),.int .i64 (((c:Nat):Int))] (objL (1) x++objU (15) x))∧
 (decide ((fin:Int)>1)=false→
 Q .normal [.slice true (.ro (k)) (0) (n),.ptr (.rw 0) (0),.ptr (.rw 14) (0),.int .i64 (((i:Nat):Int)),.int .i64 (IntKind.wrap .i64 (((c:Nat):Int)+1))] (objL (1) x++objU (15) x))))∧
 ((xB1 live) [.agg x,.int .i64 ((xI1 tellPar) [.agg x,.int .i64 (((c:Nat):Int))])]=false→
 Q .ret [.slice true (.ro (k)) (0) (n),.ptr (.rw 0) (0),.ptr (.rw 14) (0),.int .i64 (((i:Nat):Int)),.int .i64 (((c:Nat):Int))] (objL (1) x++(objU (15) x++[some ⟨1,([.int .i64 ((xI1 tellNum) [.agg x,.int .i64 (((c:Nat):Int))]),.int .i64 ((xI1 tellPar) [.agg x,.int .i64 (((c:Nat):Int))]),.int .i64 ((xI1 tellGrp) [.agg x,.int .i64 (((c:Nat):Int))]),.int .i64 ((xI1 tellUsr) [.agg x,.int .i64 (((c:Nat):Int))]),.bool ((xB1 tellEn) [.agg x,.int .i64 (((c:Nat):Int))]),.int .i64 ((xI1 tellSt) [.agg x,.int .i64 (((c:Nat):Int))])]:List AV)⟩])))))∧
 ((xB1 isP) [.agg x,.int .i64 (((c:Nat):Int))]=false→
 Q .normal [.slice true (.ro (k)) (0) (n),.ptr (.rw 0) (0),.ptr (.rw 14) (0),.int .i64 (((i:Nat):Int)),.int .i64 (IntKind.wrap .i64 (((c:Nat):Int)+1))] (objL (1) x++(objU (15) x++[some ⟨1,([.int .i64 ((xI1 tellNum) [.agg x,.int .i64 (((c:Nat):Int))]),.int .i64 ((xI1 tellPar) [.agg x,.int .i64 (((c:Nat):Int))]),.int .i64 ((xI1 tellGrp) [.agg x,.int .i64 (((c:Nat):Int))]),.int .i64 ((xI1 tellUsr) [.agg x,.int .i64 (((c:Nat):Int))]),.bool ((xB1 tellEn) [.agg x,.int .i64 (((c:Nat):Int))]),.int .i64 ((xI1 tellSt) [.agg x,.int .i64 (((c:Nat):Int))])]:List AV)⟩]))))∧
 (decide ((((c:Nat):Int):Int)≤12)=false→
 Q (.exit 2) [.slice true (.ro (k)) (0) (n),.ptr (.rw 0) (0),.ptr (.rw 14) (0),.int .i64 (((i:Nat):Int)),.int .i64 (((c:Nat):Int))] (objL (1) x++objU (15) x))):=by kernel_rfl
theorem pp_l (G:Nat→List AV) (okP1 okR1 eqx okS rm:List AV→Bool) (x y:List AV) (k n i:Nat) (Q:Ex→List AV→Hp→Prop) (R:AV→Hp→Prop):vT G Q R (dloop (Dc Try.prog [] [(18,doD okP1 okR1 eqx okS)] [DLat 2493 (rm) 2 93 [0,3,4,5,7] (.one (.exit 2) [.slice true (.ro (.var 2 k)) (.lit 0) (.var 3 n),.ptr (.rw 0) (.lit 0),.ptr (.rw 14) (.lit 0),.int .i64 (.ofN (.var 4 i)),.undef] (objD 1 (.var 15 y)++objE 15 (.var 15 y)))] 0) 600 20 0 (loopN Try.f6 0) 93 [0,3,4,5] [.slice true (.ro (.var 2 k)) (.lit 0) (.var 3 n),.ptr (.rw 0) (.lit 0),.ptr (.rw 14) (.lit 0),.int .i64 (.ofN (.var 4 i))] (objD 1 (.var 5 x)++objE 15 (.var 5 x)))=(
  (decide ((((i:Nat):Int):Int)<((n:Nat):Int))=true→
 (decide ((((i:Nat):Int):Int)<200)=true→
 decide ((0:Int)≤((i:Nat):Int))=true∧
 decide ((((i:Nat):Int):Int)<((n:Nat):Int))=true∧
 leafsOk (G (k)) ((i)*4) [.int .i64,.int .i64,.int .i64,.int .i64]=true∧
 (okP1) (okA (1) x)=true∧
 (okR1) (okB (15) x)=true∧
 (eqx) [.agg x,.agg x]=true∧
 (okS) [.agg ([.int .i64 (getI (G (k)) ((i)*4)),.int .i64 (getI (G (k)) ((i)*4+1)),.int .i64 (getI (G (k)) ((i)*4+2)),.int .i64 (getI (G (k)) ((i)*4+3))]:List AV)]=true∧
 (rm) [.agg ([.slice true (.ro (k)) (0) (n),.ptr (.rw 28) (0),.ptr (.rw 42) (0),.int .i64 (((i:Nat):Int)),.int .i64 (2)]:List AV),.agg ([.undef,.undef,.undef,.undef,.undef,.undef,.undef,.undef,.undef,.undef,.undef,.undef,.undef,.undef,.undef,.undef,.undef,.undef,.undef,.undef,.undef,.undef,.undef,.undef,.undef,.undef,.undef,.undef,.tup [.int .i64 (1),.agg ((tabF tsP) [.int .i64 (29),.agg ((stepXU) [.agg x,.agg ([.int .i64 (getI (G (k)) ((i)*4)),.int .i64 (getI (G (k)) ((i)*4+1)),.int .i64 (getI (G (k)) ((i)*4+2)),.int .i64 (getI (G (k)) ((i)*4+3))]:List AV)])])],.tup [.int .i64 (1),.agg ((setF tsP 0) [.agg ((stepXU) [.agg x,.agg ([.int .i64 (getI (G (k)) ((i)*4)),.int .i64 (getI (G (k)) ((i)*4+1)),.int .i64 (getI (G (k)) ((i)*4+2)),.int .i64 (getI (G (k)) ((i)*4+3))]:List AV)])])],.tup [.int .i64 (1),.agg ((setF tsP 1) [.agg ((stepXU) [.agg x,.agg ([.int .i64 (getI (G (k)) ((i)*4)),.int .i64 (getI (G (k)) ((i)*4+1)),.int .i64 (getI (G (k)) ((i)*4+2)),.int .i64 (getI (G (k)) ((i)*4+3))]:List AV)])])],.tup [.int .i64 (1),.agg ((setF tsP 2) [.agg ((stepXU) [.agg x,.agg ([.int .i64 (getI (G (k)) ((i)*4)),.int .i64 (getI (G (k)) ((i)*4+1)),.int .i64 (getI (G (k)) ((i)*4+2)),.int .i64 (getI (G (k)) ((i)*4+3))]:List AV)])])],.tup [.int .i64 (1),.agg ((setF tsP 3) [.agg ((stepXU) [.agg x,.agg ([.int .i64 (getI (G (k)) ((i)*4)),.int .i64 (getI (G (k)) ((i)*4+1)),.int .i64 (getI (G (k)) ((i)*4+2)),.int .i64 (getI (G (k)) ((i)*4+3))]:List AV)])])],.tup [.int .i64 (1),.agg ((setF tsP 4) [.agg ((stepXU) [.agg x,.agg ([.int .i64 (getI (G (k)) ((i)*4)),.int .i64 (getI (G (k)) ((i)*4+1)),.int .i64 (getI (G (k)) ((i)*4+2)),.int .i64 (getI (G (k)) ((i)*4+3))]:List AV)])])],.tup [.int .i64 (1),.agg ((setF tsP 5) [.agg ((stepXU) [.agg x,.agg ([.int .i64 (getI (G (k)) ((i)*4)),.int .i64 (getI (G (k)) ((i)*4+1)),.int .i64 (getI (G (k)) ((i)*4+2)),.int .i64 (getI (G (k)) ((i)*4+3))]:List AV)])])],.tup [.int .i64 (1),.agg ((setF tsP 6) [.agg ((stepXU) [.agg x,.agg ([.int .i64 (getI (G (k)) ((i)*4)),.int .i64 (getI (G (k)) ((i)*4+1)),.int .i64 (getI (G (k)) ((i)*4+2)),.int .i64 (getI (G (k)) ((i)*4+3))]:List AV)])])],.tup [.int .i64 (1),.agg ((setF tsP 7) [.agg ((stepXU) [.agg x,.agg ([.int .i64 (getI (G (k)) ((i)*4)),.int .i64 (getI (G (k)) ((i)*4+1)),.int .i64 (getI (G (k)) ((i)*4+2)),.int .i64 (getI (G (k)) ((i)*4+3))]:List AV)])])],.tup [.int .i64 (1),.agg ((setF tsP 8) [.agg ((stepXU) [.agg x,.agg ([.int .i64 (getI (G (k)) ((i)*4)),.int .i64 (getI (G (k)) ((i)*4+1)),.int .i64 (getI (G (k)) ((i)*4+2)),.int .i64 (getI (G (k)) ((i)*4+3))]:List AV)])])],.tup [.int .i64 (1),.agg ((setF tsP 9) [.agg ((stepXU) [.agg x,.agg ([.int .i64 (getI (G (k)) ((i)*4)),.int .i64 (getI (G (k)) ((i)*4+1)),.int .i64 (getI (G (k)) ((i)*4+2)),.int .i64 (getI (G (k)) ((i)*4+3))]:List AV)])])],.tup [.int .i64 (1),.agg ((setF tsP 10) [.agg ((stepXU) [.agg x,.agg ([.int .i64 (getI (G (k)) ((i)*4)),.int .i64 (getI (G (k)) ((i)*4+1)),.int .i64 (getI (G (k)) ((i)*4+2)),.int .i64 (getI (G (k)) ((i)*4+3))]:List AV)])])],.tup [.int .i64 (1),.agg ((setF tsP 11) [.agg ((stepXU) [.agg x,.agg ([.int .i64 (getI (G (k)) ((i)*4)),.int .i64 (getI (G (k)) ((i)*4+1)),.int .i64 (getI (G (k)) ((i)*4+2)),.int .i64 (getI (G (k)) ((i)*4+3))]:List AV)])])],.tup [.int .i64 (1),.agg ((setF tsP 12) [.agg ((stepXU) [.agg x,.agg ([.int .i64 (getI (G (k)) ((i)*4)),.int .i64 (getI (G (k)) ((i)*4+1)),.int .i64 (getI (G (k)) ((i)*4+2)),.int .i64 (getI (G (k)) ((i)*4+3))]:List AV)])])],.tup [.int .i64 (1),.agg ((tabF tsR) [.int .i64 (43),.agg ((stepXU) [.agg x,.agg ([.int .i64 (getI (G (k)) ((i)*4)),.int .i64 (getI (G (k)) ((i)*4+1)),.int .i64 (getI (G (k)) ((i)*4+2)),.int .i64 (getI (G (k)) ((i)*4+3))]:List AV)])])],.tup [.int .i64 (1),.agg ((setF tsR 0) [.agg ((stepXU) [.agg x,.agg ([.int .i64 (getI (G (k)) ((i)*4)),.int .i64 (getI (G (k)) ((i)*4+1)),.int .i64 (getI (G (k)) ((i)*4+2)),.int .i64 (getI (G (k)) ((i)*4+3))]:List AV)])])],.tup [.int .i64 (1),.agg ((setF tsR 1) [.agg ((stepXU) [.agg x,.agg ([.int .i64 (getI (G (k)) ((i)*4)),.int .i64 (getI (G (k)) ((i)*4+1)),.int .i64 (getI (G (k)) ((i)*4+2)),.int .i64 (getI (G (k)) ((i)*4+3))]:List AV)])])],.tup [.int .i64 (1),.agg ((setF tsR 2) [.agg ((stepXU) [.agg x,.agg ([.int .i64 (getI (G (k)) ((i)*4)),.int .i64 (getI (G (k)) ((i)*4+1)),.int .i64 (getI (G (k)) ((i)*4+2)),.int .i64 (getI (G (k)) ((i)*4+3))]:List AV)])])],.tup [.int .i64 (1),.agg ((setF tsR 3) [.agg ((stepXU) [.agg x,.agg ([.int .i64 (getI (G (k)) ((i)*4)),.int .i64 (getI (G (k)) ((i)*4+1)),.int .i64 (getI (G (k)) ((i)*4+2)),.int .i64 (getI (G (k)) ((i)*4+3))]:List AV)])])],.tup [.int .i64 (1),.agg ((setF tsR 4) [.agg ((stepXU) [.agg x,.agg ([.int .i64 (getI (G (k)) ((i)*4)),.int .i64 (getI (G (k)) ((i)*4+1)),.int .i64 (getI (G (k)) ((i)*4+2)),.int .i64 (getI (G (k)) ((i)*4+3))]:List AV)])])],.tup [.int .i64 (1),.agg ((setF tsR 5) [.agg ((stepXU) [.agg x,.agg ([.int .i64 (getI (G (k)) ((i)*4)),.int .i64 (getI (G (k)) ((i)*4+1)),.int .i64 (getI (G (k)) ((i)*4+2)),.int .i64 (getI (G (k)) ((i)*4+3))]:List AV)])])],.tup [.int .i64 (1),.agg ((setF tsR 6) [.agg ((stepXU) [.agg x,.agg ([.int .i64 (getI (G (k)) ((i)*4)),.int .i64 (getI (G (k)) ((i)*4+1)),.int .i64 (getI (G (k)) ((i)*4+2)),.int .i64 (getI (G (k)) ((i)*4+3))]:List AV)])])],.tup [.int .i64 (1),.agg ((setF tsR 7) [.agg ((stepXU) [.agg x,.agg ([.int .i64 (getI (G (k)) ((i)*4)),.int .i64 (getI (G (k)) ((i)*4+1)),.int .i64 (getI (G (k)) ((i)*4+2)),.int .i64 (getI (G (k)) ((i)*4+3))]:List AV)])])],.tup [.int .i64 (1),.agg ((setF tsR 8) [.agg ((stepXU) [.agg x,.agg ([.int .i64 (getI (G (k)) ((i)*4)),.int .i64 (getI (G (k)) ((i)*4+1)),.int .i64 (getI (G (k)) ((i)*4+2)),.int .i64 (getI (G (k)) ((i)*4+3))]:List AV)])])],.tup [.int .i64 (1),.agg ((setF tsR 9) [.agg ((stepXU) [.agg x,.agg ([.int .i64 (getI (G (k)) ((i)*4)),.int .i64 (getI (G (k)) ((i)*4+1)),.int .i64 (getI (G (k)) ((i)*4+2)),.int .i64 (getI (G (k)) ((i)*4+3))]:List AV)])])],.tup [.int .i64 (1),.agg ((setF tsR 10) [.agg ((stepXU) [.agg x,.agg ([.int .i64 (getI (G (k)) ((i)*4)),.int .i64 (getI (G (k)) ((i)*4+1)),.int .i64 (getI (G (k)) ((i)*4+2)),.int .i64 (getI (G (k)) ((i)*4+3))]:List AV)])])],.tup [.int .i64 (1),.agg ((setF tsR 11) [.agg ((stepXU) [.agg x,.agg ([.int .i64 (getI (G (k)) ((i)*4)),.int .i64 (getI (G (k)) ((i)*4+1)),.int .i64 (getI (G (k)) ((i)*4+2)),.int .i64 (getI (G (k)) ((i)*4+3))]:List AV)])])],.tup [.int .i64 (1),.agg ((setF tsR 12) [.agg ((stepXU) [.agg x,.agg ([.int .i64 (getI (G (k)) ((i)*4)),.int .i64 (getI (G (k)) ((i)*4+1)),.int .i64 (getI (G (k)) ((i)*4+2)),.int .i64 (getI (G (k)) ((i)*4+3))]:List AV)])])]]:List AV)]=true∧
 Q .normal [.slice true (.ro (k)) (0) (n),.ptr (.rw 0) (0),.ptr (.rw 14) (0),.int .i64 (IntKind.wrap .i64 (((i:Nat):Int)+1))] (objL (1) y++objU (15) y))∧
 (decide ((((i:Nat):Int):Int)<200)=false→
 Q (.exit 0) [.slice true (.ro (k)) (0) (n),.ptr (.rw 0) (0),.ptr (.rw 14) (0),.int .i64 (((i:Nat):Int))] (objL (1) x++objU (15) x)))∧
 (decide ((((i:Nat):Int):Int)<((n:Nat):Int))=false→
 Q (.exit 0) [.slice true (.ro (k)) (0) (n),.ptr (.rw 0) (0),.ptr (.rw 14) (0),.int .i64 (((i:Nat):Int))] (objL (1) x++objU (15) x))):=by kernel_rfl
theorem pp_c (G:Nat→List AV) (rk:List AV→Bool) (k n:Nat) (Q:Ex→List AV→Hp→Prop) (R:AV→Hp→Prop):vT G Q R (dlaw (Dc Try.prog [] [(9,knownS),(10,newQ 2101 tsP),(17,newQ 2251 tsR)] [DLat 2494 (rk) 0 93 [0,3,4,5] (.one (.exit 0) [.undef,.undef,.undef,.undef] [])] 0) 600 20 Try.f6 [.slice true (.ro (.var 2 k)) (.lit 0) (.var 3 n)] [])=(
  (rk) [.agg ([.slice true (.ro (k)) (0) (n),.ptr (.rw 0) (0),.ptr (.rw 14) (0),.int .i64 (0)]:List AV),.agg ([.tup [.int .i64 (1),.agg ((tabF tsP) [.int .i64 (1),.agg ((new0U) [])])],.tup [.int .i64 (1),.agg ((setF tsP 0) [.agg ((new0U) [])])],.tup [.int .i64 (1),.agg ((setF tsP 1) [.agg ((new0U) [])])],.tup [.int .i64 (1),.agg ((setF tsP 2) [.agg ((new0U) [])])],.tup [.int .i64 (1),.agg ((setF tsP 3) [.agg ((new0U) [])])],.tup [.int .i64 (1),.agg ((setF tsP 4) [.agg ((new0U) [])])],.tup [.int .i64 (1),.agg ((setF tsP 5) [.agg ((new0U) [])])],.tup [.int .i64 (1),.agg ((setF tsP 6) [.agg ((new0U) [])])],.tup [.int .i64 (1),.agg ((setF tsP 7) [.agg ((new0U) [])])],.tup [.int .i64 (1),.agg ((setF tsP 8) [.agg ((new0U) [])])],.tup [.int .i64 (1),.agg ((setF tsP 9) [.agg ((new0U) [])])],.tup [.int .i64 (1),.agg ((setF tsP 10) [.agg ((new0U) [])])],.tup [.int .i64 (1),.agg ((setF tsP 11) [.agg ((new0U) [])])],.tup [.int .i64 (1),.agg ((setF tsP 12) [.agg ((new0U) [])])],.tup [.int .i64 (1),.agg ((tabF tsR) [.int .i64 (15),.agg ((new0U) [])])],.tup [.int .i64 (1),.agg ((setF tsR 0) [.agg ((new0U) [])])],.tup [.int .i64 (1),.agg ((setF tsR 1) [.agg ((new0U) [])])],.tup [.int .i64 (1),.agg ((setF tsR 2) [.agg ((new0U) [])])],.tup [.int .i64 (1),.agg ((setF tsR 3) [.agg ((new0U) [])])],.tup [.int .i64 (1),.agg ((setF tsR 4) [.agg ((new0U) [])])],.tup [.int .i64 (1),.agg ((setF tsR 5) [.agg ((new0U) [])])],.tup [.int .i64 (1),.agg ((setF tsR 6) [.agg ((new0U) [])])],.tup [.int .i64 (1),.agg ((setF tsR 7) [.agg ((new0U) [])])],.tup [.int .i64 (1),.agg ((setF tsR 8) [.agg ((new0U) [])])],.tup [.int .i64 (1),.agg ((setF tsR 9) [.agg ((new0U) [])])],.tup [.int .i64 (1),.agg ((setF tsR 10) [.agg ((new0U) [])])],.tup [.int .i64 (1),.agg ((setF tsR 11) [.agg ((new0U) [])])],.tup [.int .i64 (1),.agg ((setF tsR 12) [.agg ((new0U) [])])]]:List AV)]=true∧
 R (.bool (true)) []):=by kernel_rfl
end Go.Am
namespace Go.Am
open Crc
structure Pv (s:Ptb):Prop where
 par:∀ n:Nat,n≠1→(s.at_ n).num≠0→(s.at_ n).par=1∨live s (s.at_ n).par=true
 rank:∃ r:Nat→Nat,∀ n:Nat,n≠1→(s.at_ n).num≠0→(s.at_ n).par=1∨r (s.at_ n).par.toNat<r n
 pend:∀ n p,(s.at_ n).en=true→s.sg n=some p→p.wt=0#32
theorem live_congr {s s':Ptb} {m:Int} (h1:(s'.at_ m.toNat).num=(s.at_ m.toNat).num) (h2:(s'.at_ m.toNat).en=(s.at_ m.toNat).en):live s' m=live s m:=by
 unfold live isP
 rw [h1,h2]
theorem Pv.keep {s s':Ptb} (h:Pv s) (ha:∀ n,(s'.at_ n).num=(s.at_ n).num∧(s'.at_ n).par=(s.at_ n).par∧(s'.at_ n).en=(s.at_ n).en) (hs:∀ n,(s.at_ n).en=true→s'.sg n=s.sg n):Pv s':=by
 obtain ⟨r,hr⟩:=h.rank
 refine ⟨fun n h1 h2=>?_,⟨r,fun n h1 h2=>?_⟩,fun n p h1 h2=>?_⟩
 ·rw [(ha n).1] at h2
  rw [(ha n).2.1,live_congr (ha _).1 (ha _).2.2]
  exact h.par n h1 h2
 ·rw [(ha n).1] at h2
  rw [(ha n).2.1]
  exact hr n h1 h2
 ·rw [(ha n).2.2] at h1
  rw [hs n h1] at h2
  exact h.pend n p h1 h2
theorem Pv.freed {s s':Ptb} (h:Pv s) (hf:∀ j,(s'.at_ j=s.at_ j∧s'.sg j=s.sg j)∨(s'.at_ j=zc∧(s.at_ j).en=true)):Pv s':=by
 obtain ⟨r,hr⟩:=h.rank
 have lv:∀ m,live s m=true→live s' m=true:=fun m hm=>by
  rcases hf m.toNat with ⟨e,_⟩ | ⟨_,e⟩
  ·rw [live_congr (s:=s) (s':=s') (m:=m) (by rw [e]) (by rw [e])];exact hm
  ·have:=(live_iff.1 hm).2.2.2
   rw [this] at e;cases e
 refine ⟨fun n h1 h2=>?_,⟨r,fun n h1 h2=>?_⟩,fun n p h1 h2=>?_⟩
 ·rcases hf n with ⟨e,_⟩ | ⟨e,_⟩
  ·rw [e] at h2 ⊢
   exact (h.par n h1 h2).imp id (lv _)
  ·rw [e] at h2;exact absurd rfl h2
 ·rcases hf n with ⟨e,_⟩ | ⟨e,_⟩
  ·rw [e] at h2 ⊢
   exact hr n h1 h2
  ·rw [e] at h2;exact absurd rfl h2
 ·rcases hf n with ⟨e,e2⟩ | ⟨e,_⟩
  ·rw [e] at h1;rw [e2] at h2
   exact h.pend n p h1 h2
  ·rw [e] at h1;cases h1
theorem pv_new0:Pv new0:=by
 have z:∀ n:Nat,n≠1→new0.at_ n=zc:=fun n hn=>by
  show (if n=1 then _ else zc)=zc
  rw [if_neg hn]
 refine ⟨fun n h1 h2=>absurd (by rw [z n h1];rfl) h2,⟨fun _=>0,fun n h1 h2=>absurd (by rw [z n h1];rfl) h2⟩,fun n p h1 h2=>?_⟩
 by_cases e:n=1
 ·subst e;cases h1
 ·rw [z n e] at h1;cases h1
theorem live_ne {s:Ptb} {m:Int} {c:Nat} (h:live s m=true) (hc:(s.at_ c).num=0):m.toNat≠c:=fun e=>by
 have:=live_iff.1 h
 rw [e,hc] at this
 omega
theorem Pv.fork {s:Ptb} (hw:Wf s) (h:Pv s) (n:Int):Pv (forkY s n):=by
 unfold forkY forkR
 split
 ·rename_i hl
  split
  ·exact h
  ·obtain ⟨_,a2⟩:=lowF_spec hw
   obtain ⟨b1,b2,b3⟩:=a2 (by omega)
   have h0:(s.at_ (lowF s)).num=0:=by
    apply Decidable.byContradiction
    intro hh
    have:=(hw.isP (lowF s)).2 hh
    rw [this] at b3;cases b3
   obtain ⟨r,hr⟩:=h.rank
   generalize lowF s=c at *
   show Pv (forkX s n c)
   have at_:∀ j,j≠c→(forkX s n c).at_ j=s.at_ j:=fun j hj=>if_neg hj
   have atc:(forkX s n c).at_ c=forkP s n c:=if_pos rfl
   have lv:∀ m,live s m=true→live (forkX s n c) m=true:=fun m hm=>by
    have e:=at_ _ (live_ne hm h0)
    rw [live_congr (s:=s) (s':=forkX s n c) (m:=m) (by rw [e]) (by rw [e])];exact hm
   refine ⟨fun j h1 h2=>?_,⟨fun j=>if j=c then r n.toNat+1 else r j,fun j h1 h2=>?_⟩,fun j p h1 h2=>?_⟩
   ·by_cases e:j=c
    ·subst e
     rw [atc]
     exact .inr (lv n hl)
    ·rw [at_ j e] at h2 ⊢
     exact (h.par j h1 h2).imp id (lv _)
   ·by_cases e:j=c
    ·subst e
     rw [atc]
     refine .inr ?_
     show (if n.toNat=j then _ else r n.toNat)<(if j=j then _ else _)
     rw [if_pos rfl,if_neg (live_ne hl h0)];omega
    ·rw [at_ j e] at h2 ⊢
     rcases h.par j h1 h2 with q | q
     ·exact .inl q
     ·rcases hr j h1 h2 with q2 | q2
      ·exact .inl q2
      ·refine .inr ?_
       show (if (s.at_ j).par.toNat=c then _ else r (s.at_ j).par.toNat)<(if j=c then _ else r j)
       rw [if_neg (live_ne q h0),if_neg e];exact q2
   ·by_cases e:j=c
    ·subst e
     rw [atc] at h1;cases h1
    ·rw [at_ j e] at h1
     have h2:(if j=c then _ else s.sg j)=some p:=h2
     rw [if_neg e] at h2
     exact h.pend j p h1 h2
 ·exact h
theorem parL_get {s:Ptb} {j:Nat}:∀ {l:List Nat},(parL s l).at_ j=if j∈l then { s.at_ j with par:=1 } else s.at_ j:=by
 intro l
 induction l generalizing s with
 | nil=>rfl
 | cons x l ih=>
  show (parL (parU s x) l).at_ j=_
  rw [ih]
  have e:(parU s x).at_ j=if j=x then { s.at_ x with par:=1 } else s.at_ j:=rfl
  rw [e]
  by_cases h:j=x
  ·subst h
   simp
  ·simp [h]
theorem endL_get {s:Ptb} {j:Nat}:∀ {l:List Nat},((endL s l).at_ j=s.at_ j∧(endL s l).sg j=s.sg j)∨((endL s l).at_ j=zc∧(s.at_ j).en=true):=by
 intro l
 induction l generalizing s with
 | nil=>exact .inl ⟨rfl,rfl⟩
 | cons x l ih=>
  have h:=ih (s:=endU s x)
  show ((endL (endU s x) l).at_ j=s.at_ j∧(endL (endU s x) l).sg j=s.sg j)∨_
  by_cases hx:j=x∧(s.at_ x).en=true
  ·obtain ⟨rfl,he⟩:=hx
   have e:endU s j=freeX s j:=if_pos he
   have z:(endU s j).at_ j=zc:=by rw [e];exact if_pos rfl
   rcases h with ⟨a,_⟩ | ⟨a,_⟩
   ·exact .inr ⟨by show (endL (endU s j) l).at_ j=zc;rw [a,z],he⟩
   ·exact .inr ⟨a,he⟩
  ·have z:(endU s x).at_ j=s.at_ j∧(endU s x).sg j=s.sg j:=by
    unfold endU
    split
    ·rename_i he
     have hj:j≠x:=fun e=>hx ⟨e,he⟩
     exact ⟨if_neg hj,if_neg hj⟩
    ·exact ⟨rfl,rfl⟩
   rw [z.1,z.2] at h
   exact h
theorem Pv.ends {s:Ptb} (hw:Wf s) (h:Pv s) (n a:Int):Pv (endX s n a):=by
 unfold endX endR
 split
 ·rename_i hl
  have hlv:=live_iff.1 hl
  have w1:Wf (endS s n.toNat a):=hw.endS (by omega) a
  have hp:Pv (endP s n a):=by
   obtain ⟨r,hr⟩:=h.rank
   have atj:∀ j,(endP s n a).at_ j=if j∈kidT s n 13 then { (endS s n.toNat a).at_ j with par:=1 } else (endS s n.toNat a).at_ j:=fun j=>parL_get
   have s1:∀ j,((endS s n.toNat a).at_ j).num=(s.at_ j).num∧((endS s n.toNat a).at_ j).par=(s.at_ j).par∧(j≠n.toNat→((endS s n.toNat a).at_ j).en=(s.at_ j).en):=fun j=>by
    show (if j=n.toNat then _ else s.at_ j).num=_∧(if j=n.toNat then _ else s.at_ j).par=_∧(j≠n.toNat→(if j=n.toNat then _ else s.at_ j).en=_)
    by_cases e:j=n.toNat
    ·subst e
     rw [if_pos rfl]
     exact ⟨rfl,rfl,fun h=>absurd rfl h⟩
    ·rw [if_neg e];exact ⟨rfl,rfl,fun _=>rfl⟩
   have nu:∀ j,((endP s n a).at_ j).num=(s.at_ j).num:=fun j=>by
    rw [atj];split
    ·exact (s1 j).1
    ·exact (s1 j).1
   have en:∀ j,j≠n.toNat→((endP s n a).at_ j).en=(s.at_ j).en:=fun j hj=>by
    rw [atj];split
    ·exact (s1 j).2.2 hj
    ·exact (s1 j).2.2 hj
   have pa:∀ j,((endP s n a).at_ j).par=1∨(j ∉ kidT s n 13∧((endP s n a).at_ j).par=(s.at_ j).par):=fun j=>by
    rw [atj];split
    ·exact .inl rfl
    ·rename_i hk
     exact .inr ⟨hk,(s1 j).2.1⟩
   have sge:(endP s n a).sg=(endS s n.toNat a).sg:=parL_sg _
   refine ⟨fun j h1 h2=>?_,⟨r,fun j h1 h2=>?_⟩,fun j p h1 h2=>?_⟩
   ·rw [nu] at h2
    rcases pa j with q | ⟨q,e⟩
    ·exact .inl q
    ·rw [e]
     rcases h.par j h1 h2 with q2 | q2
     ·exact .inl q2
     ·refine .inr ?_
      have hne:(s.at_ j).par≠n:=fun e2=>by
       apply q
       have t:=hw.there h2
       unfold kidT
       rw [List.mem_filter]
       exact ⟨List.mem_range.2 (by omega),(kidB_iff hw hlv.1 t.2.1).2 ⟨t.1,e2⟩⟩
      have hq:=live_iff.1 q2
      rw [live_congr (nu _) (en _ (by omega))];exact q2
   ·rw [nu] at h2
    rcases pa j with q | ⟨_,e⟩
    ·exact .inl q
    ·rw [e];exact hr j h1 h2
   ·rw [sge] at h2
    have h2:(if j=n.toNat then some (childOf (sgD s n.toNat)) else s.sg j)=some p:=h2
    by_cases e:j=n.toNat
    ·rw [if_pos e] at h2
     simp only [Option.some.injEq] at h2
     subst h2
     show 0#32 &&& _=0#32
     simp
    ·rw [if_neg e] at h2
     rw [en j e] at h1
     exact h.pend j p h1 h2
  show Pv (if live (endP s n a) 1=true then endP s n a else endL (endP s n a) (kidT (endP s n a) 1 13))
  split
  ·exact hp
  ·exact hp.freed fun j=>endL_get
 ·exact h
theorem Pv.wait {s:Ptb} (h:Pv s) (n w:Int):Pv (waitX s n w):=by
 unfold waitX waitR
 split
 ·split
  ·exact h
  ·split
   ·rename_i c e
    have hc:=List.find?_some e
    unfold wHit at hc
    rw [Bool.and_eq_true] at hc
    refine h.freed fun j=>?_
    show ((if j=c then zc else s.at_ j)=s.at_ j∧(if j=c then none else s.sg j)=s.sg j)∨((if j=c then zc else s.at_ j)=zc∧_)
    by_cases e:j=c
    ·subst e
     rw [if_pos rfl];exact .inr ⟨rfl,hc.2⟩
    ·rw [if_neg e,if_neg e];exact .inl ⟨rfl,rfl⟩
   ·split<;>exact h
 ·exact h
theorem kR_sg {s:Ptb} (hw:Wf s) {to sg me:Int} {j:Nat} (he:(s.at_ j).en=true):∀ k,(kR s to sg me k).1.sg j=s.sg j:=by
 intro k
 induction k with
 | zero=>rfl
 | succ k ih=>
  have ki:=(kR_inv hw to sg me k).at_
  show (if 0<(s.at_ k).num then _ else kR s to sg me k).1.sg j=_
  split
  ·show (kNx (kR s to sg me k).1 k to sg me).sg j=_
   unfold kNx
   split
   ·rename_i hc
    show (if j=k then _ else (kR s to sg me k).1.sg j)=_
    rw [if_neg,ih]
    intro e
    subst e
    rw [ki,he] at hc
    simp at hc
   ·exact ih
  ·exact ih
theorem Pv.kill {s:Ptb} (hw:Wf s) (h:Pv s) (n to sg:Int):Pv (killX s n to sg):=by
 unfold killX
 split
 ·split
  ·exact h
  ·refine h.keep (fun j=>?_) fun j hj=>kR_sg hw hj 13
   have ki:=(kR_inv hw to sg (s.at_ n.toNat).usr 13).at_
   show ((kR s to sg (s.at_ n.toNat).usr 13).1.at_ j).num=_∧((kR s to sg (s.at_ n.toNat).usr 13).1.at_ j).par=_∧((kR s to sg (s.at_ n.toNat).usr 13).1.at_ j).en=_
   rw [ki];exact ⟨rfl,rfl,rfl⟩
 ·exact h
theorem Pv.updS {s:Ptb} (h:Pv s) {c:Nat} (hc:(s.at_ c).en=false) (o:Option Sg):Pv (updS s c o):=by
 refine h.keep (fun _=>⟨rfl,rfl,rfl⟩) fun j hj=>?_
 show (if j=c then o else s.sg j)=_
 rw [if_neg]
 intro e
 rw [e,hc] at hj;cases hj
theorem Pv.updC {s:Ptb} (h:Pv s) {c:Nat} {x:Pc} (h1:x.num=(s.at_ c).num) (h2:x.par=(s.at_ c).par) (h3:x.en=(s.at_ c).en):Pv (updC s c x):=by
 refine h.keep (fun j=>?_) fun j hj=>rfl
 show (if j=c then x else s.at_ j).num=_∧(if j=c then x else s.at_ j).par=_∧(if j=c then x else s.at_ j).en=_
 by_cases e:j=c
 ·subst e;rw [if_pos rfl];exact ⟨h1,h2,h3⟩
 ·rw [if_neg e];exact ⟨rfl,rfl,rfl⟩
theorem Pv.group {s:Ptb} (h:Pv s) (n a:Int):Pv (groupX s n a):=by
 unfold groupX
 split
 ·split
  ·exact h
  ·exact h.updC rfl rfl rfl
 ·exact h
theorem Pv.user {s:Ptb} (h:Pv s) (n a:Int):Pv (userX s n a):=by
 unfold userX
 split
 ·split
  ·exact h
  ·split
   ·exact h.updC rfl rfl rfl
   ·exact h
 ·exact h
theorem Pv.mask {s:Ptb} (h:Pv s) (n a:Int):Pv (maskX s n a):=by
 unfold maskX
 split
 ·rename_i hl
  exact h.updS (live_iff.1 hl).2.2.2 _
 ·exact h
theorem Pv.hand {s:Ptb} (h:Pv s) (n i a:Int):Pv (handX s n i a):=by
 unfold handX
 split
 ·rename_i hl
  split
  ·exact h
  ·exact h.updS (live_iff.1 hl).2.2.2 _
 ·exact h
theorem Pv.take {s:Ptb} (hw:Wf s) (h:Pv s) (n:Int):Pv (takeX s n):=by
 unfold takeX
 split
 ·rename_i hl
  have h1:Pv (takeS1 s n):=h.updS (live_iff.1 hl).2.2.2 _
  split
  ·exact h1.ends (hw.takeS1 hl) _ _
  ·exact h1
 ·exact h
theorem Pv.step {s:Ptb} (hw:Wf s) (h:Pv s) (c p a b:Int):Pv (stepX s c p a b):=by
 unfold stepX
 split
 ·exact h.fork hw p
 split
 ·exact h.ends hw p a
 split
 ·exact h.wait p a
 split
 ·exact h.group p a
 split
 ·exact h.user p a
 split
 ·exact h.kill hw p a b
 split
 ·exact h.mask p a
 split
 ·exact h.hand p a b
 split
 ·exact h.take hw p
 ·exact h
def upP (s:Ptb) (n:Nat):Nat→Int
 | 0=>(n:Int)
 | k+1=>if 1<upP s n k then tellPar s (upP s n k) else upP s n k
theorem rank_b {s:Ptb} (hw:Wf s) (h:Pv s):∃ r:Nat→Nat,(∀ n,r n≤11)∧∀ n:Nat,n≠1→(s.at_ n).num≠0→(s.at_ n).par=1∨r (s.at_ n).par.toNat<r n:=by
 obtain ⟨r,hr⟩:=h.rank
 refine ⟨fun n=>(List.range 11).countP fun m=>decide (r (m+2)<r n),fun n=>?_,fun n h1 h2=>?_⟩
 ·have:=List.countP_le_length (p:=fun m=>decide (r (m+2)<r n)) (l:=List.range 11)
  simpa using this
 ·rcases hr n h1 h2 with q | q
  ·exact .inl q
  ·rcases h.par n h1 h2 with q2 | q2
   ·exact .inl q2
   by_cases e1:(s.at_ n).par=1
   ·exact .inl e1
   ·refine .inr ?_
    have hl:=live_iff.1 q2
    have gen:∀ (l:List Nat) (f g:Nat→Bool) (x:Nat),(∀ m,f m=true→g m=true)→x∈l→f x=false→g x=true→l.countP f<l.countP g:=fun l f g x hfg=>by
     induction l with
     | nil=>intro hx;simp at hx
     | cons y l ih=>
      intro hx hf hg
      have mono:l.countP f≤l.countP g:=List.countP_mono_left fun m _=>hfg m
      rw [List.countP_cons,List.countP_cons]
      by_cases e:x=y
      ·subst e
       rw [hf,hg];simp;omega
      ·have hx:x∈l:=by simpa [e] using hx
       have:=ih hx hf hg
       have h2:(if f y=true then 1 else 0)≤(if g y=true then 1 else 0):=by
        cases hfy:f y with
        | false=>simp
        | true=>rw [hfg y hfy];simp
       omega
    refine gen _ _ _ ((s.at_ n).par.toNat - 2) (fun m hm=>?_) (List.mem_range.2 (by omega)) ?_ ?_
    ·rw [decide_eq_true_eq] at hm ⊢;omega
    ·rw [show (s.at_ n).par.toNat - 2+2=(s.at_ n).par.toNat by omega];simp
    ·rw [show (s.at_ n).par.toNat - 2+2=(s.at_ n).par.toNat by omega];simpa using q
theorem upP_inv {s:Ptb} (hw:Wf s) (h:Pv s) {n:Nat} (hn:n≠1) (hp:(s.at_ n).num≠0):∃ r:Nat→Nat,(∀ m,r m≤11)∧∀ k,upP s n k≤1∨((s.at_ (upP s n k).toNat).num=upP s n k∧r (upP s n k).toNat+k≤11):=by
 obtain ⟨r,hb,hr⟩:=rank_b hw h
 refine ⟨r,hb,fun k=>?_⟩
 induction k with
 | zero=>
  refine .inr ⟨?_,?_⟩
  ·show (s.at_ (Int.toNat (n:Int))).num=(n:Int)
   rw [Int.toNat_natCast];exact (hw.there hp).1
  ·exact hb _
 | succ k ih=>
  show (if 1<upP s n k then tellPar s (upP s n k) else upP s n k)≤1∨_
  have e:upP s n (k+1)=if 1<upP s n k then tellPar s (upP s n k) else upP s n k:=rfl
  rw [e]
  by_cases h1:1<upP s n k
  ·rw [if_pos h1]
   rcases ih with h2 | ⟨h2,h3⟩
   ·omega
   ·have hne:(s.at_ (upP s n k).toNat).num≠0:=by omega
    have ht:=hw.there hne
    have hi:isP s (upP s n k)=true:=isP_iff.2 ⟨by omega,by omega,h2⟩
    have ep:tellPar s (upP s n k)=(s.at_ (upP s n k).toNat).par:=by unfold tellPar tellX;rw [if_pos hi]
    rw [ep]
    rcases hr _ (by omega) hne with q | q
    ·exact .inl (by omega)
    ·rcases h.par _ (by omega) hne with q2 | q2
     ·exact .inl (by omega)
     ·have hl:=live_iff.1 q2
      exact .inr ⟨hl.2.2.1,by omega⟩
  ·rw [if_neg h1];exact .inl (by omega)
theorem upP_12 {s:Ptb} (hw:Wf s) (h:Pv s) {n:Nat} (hn:n≠1) (hp:(s.at_ n).num≠0):upP s n 12≤1:=by
 obtain ⟨r,_,hr⟩:=upP_inv hw h hn hp
 rcases hr 12 with h2 | ⟨_,h2⟩
 ·exact h2
 ·omega
end Go.Am
namespace Go.Am
open Go.Proofs Crc
set_option maxRecDepth 100000
end Go.Am
namespace Go.Am
open Crc
set_option maxRecDepth 100000
end Go.Am
namespace Go.Am
open Go.Proofs Crc
set_option maxRecDepth 100000
end Go.Am
namespace Go.Am
open Go.Proofs Crc
set_option maxRecDepth 100000
end Go.Am
namespace Go.Am
open Go.Proofs Crc
set_option maxRecDepth 100000
end Go.Am
namespace Go.Am
open Go.Proofs Crc
set_option maxRecDepth 100000
set_option maxHeartbeats 1000000
structure StepsAt (cs:List AV) (n:Nat):Prop where
 ok:okI .i64 cs 0 (n*4)=true
 rng:∀ i,i<n→-9223372036854775808≤getI cs (i*4+2)
def runX (cs:List AV):Nat→Ptb
 | 0=>new0
 | i+1=>stepX (runX cs i) (getI cs (i*4)) (getI cs (i*4+1)) (getI cs (i*4+2)) (getI cs (i*4+3))
theorem runX_wf (cs:List AV):∀ i,Wf (runX cs i)
 | 0=>new0_wf
 | i+1=>(runX_wf cs i).stepX _ _ _ _
theorem stepXU_enc {s:Ptb} (hs:thin s) {c p a b:Int}:stepXU [.agg (encX s),.agg [.int .i64 c,.int .i64 p,.int .i64 a,.int .i64 b]]=encX (stepX s c p a b):=by
 show encX (stepX (decX (encX s)) c p a b)=_
 rw [decX_enc hs]
theorem stepOk_at {cs:List AV} {n i:Nat} (h:StepsAt cs n) (hi:i<n):stepOk [.agg [.int .i64 (getI cs (i*4)),.int .i64 (getI cs (i*4+1)),.int .i64 (getI cs (i*4+2)),.int .i64 (getI cs (i*4+3))]]=true:=stepOk_iff.2 ⟨_,_,_,_,rfl,h.rng i hi⟩
theorem doD_law (G:Nat→List AV) (B:Nat):DSumOk (⟨Try.prog,G,B⟩:Ctx) 18 (doD (okObj tsP) (okObj tsR) eqXU stepOk):=doD_ok (fun s hw c p a b ha=>do_call G B hw c p a b ha)
theorem eqX_self (x:List AV):eqXU [.agg x,.agg x]=true:=eqXU_iff.2 rfl
end Go.Am
namespace Go.Am
open Go.Proofs Crc
set_option maxRecDepth 100000
end Go.Am
