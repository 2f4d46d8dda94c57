/-
  ProcsGroups: trees. A signal to a group: the plain law.
-/
import Derived.Test.YtkabjomhnddnoaaPart27
import Derived.Test.YtkabjomhnddnoaaPart26
import Derived.Test.YtkabjomhnddnoaaPart25
import Derived.Test.YtkabjomhnddnoaaPart22
import Derived.Test.YtkabjomhnddnoaaBase10
namespace Go.Am
open Go.Proofs Crc
set_option maxRecDepth 100000
variable {C:Ctx}
def sigC (tg:Nat) (ok:List AV→Bool):DSum:=fun args H=>match args with
 | [.ptr (.rw i) (.lit 0),.int .i64 n]=>match objAt tg H i with
  | some o=>some (.chk (oaChk tg ok o) (.chk (.uf 2436 (xB1 isP) [.agg o.x,.int .i64 n]) (.one (.ptr (.rw H.length) (.lit 0)) [.new ⟨1,.uf 2491 sgXU [.agg o.x,.int .i64 n]⟩])))
  | none=>none
 | _=>none
theorem sigC_ok {tg:Nat} {f:FuncId} (h:∀ s,Wf s→∀ n,ACalls C f [.ptr (.rw 0) 0,.int .i64 n] (can tsP s) fun v H'=>v=sigV s n∧H'=sigH s n):DSumOk C f (sigC tg (okObj tsP)):=by
 intro args H o ho
 unfold sigC at ho
 split at ho
 ·rename_i i n
  split at ho
  ·rename_i oa hoa
   simp only [Option.some.injEq] at ho
   subst ho
   have:=sigQ_ok (tg:=tg) h [.ptr (.rw i) (.lit 0),.int .i64 n] H _ (by unfold sigQ;simp only [hoa];rfl)
   exact fun h1 h2=>(this h1).1 h2
  ·cases ho
 ·cases ho
def inSg:List AV→Bool:=fun vs=>match vs with
 | [.int _ n]=>decide (0≤n)&&decide (n≤15)
 | _=>false
def sendC (s:Side):DSum:=onSet s fun i l rest=>match rest with
 | [.int .i64 n]=>some (.chk (.uf 2497 inSg [.int .i64 n]) (.one (eno 0) [.set i ⟨1,s.put (.uf 1010 sendU [.agg l,.int .i64 n])⟩]))
 | _=>none
theorem sendC_ok {s:Side} {enc:Sg→List AV} (hs:SideOk C.G s enc) {f:FuncId} (h:SendOk C f enc):DSumOk C f (sendC s):=by
 intro args H o ho
 have key:=sendS_ok hs h args H
 unfold sendC onSet at ho
 unfold sendS onSet at key
 split at ho
 ·rename_i i rest
  split at ho
  ·rename_i cs hi
   split at ho
   ·rename_i b l hg
    split at ho
    ·rename_i o' hk
     dsimp only at hk
     split at hk
     ·rename_i n
      simp only [Option.some.injEq] at hk ho
      subst hk
      subst ho
      simp only [hi,hg] at key
      have key:=key _ rfl
      intro hb hn
      have hn:inSg [.int .i64 (vI C.G n)]=true:=hn
      simp only [inSg,Bool.and_eq_true,decide_eq_true_eq] at hn
      refine ((key hb).2 ?_).2 ?_
      ·show decide (vI C.G n<0)=false
       exact decide_eq_false (by omega)
      ·show decide (vI C.G n>15)=false
       exact decide_eq_false (by omega)
     ·cases hk
    ·cases ho
   ·cases ho
  ·cases ho
 ·cases ho
def sameC (s:Side):DSum:=fun xs H=>match xs with
 | [.ptr (.rw i) (.lit 0),.ptr (.rw j) (.lit 0)]=>match H[i]?,H[j]? with
  | some (some ⟨1,cs⟩),some (some ⟨1,ds⟩)=>match s.get cs,s.get ds with
   | some (b,l),some (c,m)=>match Nat.beq i j with
    | true=>none
    | false=>some (.chk b (.chk c (.chk (.uf 1060 sameU [.agg l,.agg m]) (.one (.bool (.lit true)) []))))
   | _,_=>none
  | _,_=>none
 | _=>none
theorem sameC_ok {s:Side} {f:FuncId} (h:DSumOk C f (sameS s)):DSumOk C f (sameC s):=by
 intro args H o ho
 have key:=h args H
 unfold sameC at ho
 unfold sameS at key
 split at ho
 ·rename_i i j
  split at ho
  ·rename_i cs ds hi hj
   split at ho
   ·rename_i b l c m hl hm
    split at ho
    ·cases ho
    ·rename_i hij
     simp only [Option.some.injEq] at ho
     subst ho
     simp only [hi,hj,hl,hm,hij] at key
     have key:=key _ rfl
     intro h1 h2 h3
     have k3:DOut C f [.ptr (.rw i) (.lit 0),.ptr (.rw j) (.lit 0)] H (.bool (.uf 1060 sameU [.agg l,.agg m])) []:=key h1 h2
     have h3:sameU [.agg (vL C.G l),.agg (vL C.G m)]=true:=h3
     have e:vV C.G (.bool (.uf 1060 sameU [.agg l,.agg m]))=vV C.G (.bool (.lit true)):=by
      show AV.bool (sameU [.agg (vL C.G l),.agg (vL C.G m)])=.bool true
      rw [h3]
     show DOut C f _ H (.bool (.lit true)) []
     unfold DOut at k3 ⊢
     rw [←e];exact k3
   ·cases ho
  ·cases ho
 ·cases ho
def tellB (y:List AV) (c:Int):List AV:=[.int .i64 (xI1 tellNum [.agg y,.int .i64 c]),.int .i64 (xI1 tellPar [.agg y,.int .i64 c]),.int .i64 (xI1 tellGrp [.agg y,.int .i64 c]),.int .i64 (xI1 tellUsr [.agg y,.int .i64 c]),.bool (xB1 tellEn [.agg y,.int .i64 c]),.int .i64 (xI1 tellSt [.agg y,.int .i64 c])]
def meB (m0 m1 m2 m3:Int) (m4:Bool) (m5:Int):List AV:=[.int .i64 m0,.int .i64 m1,.int .i64 m2,.int .i64 m3,.bool m4,.int .i64 m5]
theorem pg_a (G:Nat→List AV) (okP1 okR1 eqx okS:List AV→Bool) (x:List AV) (k n i:Nat) (nn gr sg:Int) (Q:Ex→List AV→Hp→Prop) (R:AV→Hp→Prop):vT G Q R (dloop (Dc Try.prog [] [(18,doD okP1 okR1 eqx okS)] [] 0) 600 20 0 (loopN Try.f5 0) 183 [0,1,7,8,9,10,11,12] [.slice true (.ro (.var 2 k)) (.lit 0) (.var 3 n),.int .i64 (.var 21 nn),.int .i64 (.var 7 gr),.int .i64 (.var 8 sg),.ptr (.rw 0) (.lit 0),.ptr (.rw 14) (.lit 0),.bool (.lit true),.int .i64 (.ofN (.var 4 i))] (objD 1 (.var 5 x)++objE 15 (.var 5 x)))=(
  (decide ((((i:Nat):Int):Int)<((n:Nat):Int))=true→
 (decide ((((i:Nat):Int):Int)<100)=true→
 decide ((0:Int)≤((i:Nat):Int))=true∧
 decide ((((i:Nat):Int):Int)<((n:Nat):Int))=true∧
 leafsOk (G (k)) ((i)*4) [.int .i64,.int .i64,.int .i64,.int .i64]=true∧
 (okP1) (okA (1) x)=true∧
 (okR1) (okB (15) x)=true∧
 (eqx) [.agg x,.agg x]=true∧
 (okS) [.agg ([.int .i64 (getI (G (k)) ((i)*4)),.int .i64 (getI (G (k)) ((i)*4+1)),.int .i64 (getI (G (k)) ((i)*4+2)),.int .i64 (getI (G (k)) ((i)*4+3))]:List AV)]=true∧
 Q .normal [.slice true (.ro (k)) (0) (n),.int .i64 (nn),.int .i64 (gr),.int .i64 (sg),.ptr (.rw 28) (0),.ptr (.rw 42) (0),.bool (true),.int .i64 (IntKind.wrap .i64 (((i:Nat):Int)+1))] ([none,none,none,none,none,none,none,none,none,none,none,none,none,none,none,none,none,none,none,none,none,none,none,none,none,none,none,none]++(objL (29) ((stepXU) [.agg x,.agg ([.int .i64 (getI (G (k)) ((i)*4)),.int .i64 (getI (G (k)) ((i)*4+1)),.int .i64 (getI (G (k)) ((i)*4+2)),.int .i64 (getI (G (k)) ((i)*4+3))]:List AV)])++objU (43) ((stepXU) [.agg x,.agg ([.int .i64 (getI (G (k)) ((i)*4)),.int .i64 (getI (G (k)) ((i)*4+1)),.int .i64 (getI (G (k)) ((i)*4+2)),.int .i64 (getI (G (k)) ((i)*4+3))]:List AV)]))))∧
 (decide ((((i:Nat):Int):Int)<100)=false→
 Q (.exit 0) [.slice true (.ro (k)) (0) (n),.int .i64 (nn),.int .i64 (gr),.int .i64 (sg),.ptr (.rw 0) (0),.ptr (.rw 14) (0),.bool (true),.int .i64 (((i:Nat):Int))] (objL (1) x++objU (15) x)))∧
 (decide ((((i:Nat):Int):Int)<((n:Nat):Int))=false→
 Q (.exit 0) [.slice true (.ro (k)) (0) (n),.int .i64 (nn),.int .i64 (gr),.int .i64 (sg),.ptr (.rw 0) (0),.ptr (.rw 14) (0),.bool (true),.int .i64 (((i:Nat):Int))] (objL (1) x++objU (15) x))):=by kernel_rfl
theorem pg_b (G:Nat→List AV) (okP1:List AV→Bool) (x y:List AV) (c:Nat) (gr sg ee m0 m1 m2 m3 m5:Int) (m4 b1 b2:Bool) (Q:Ex→List AV→Hp→Prop) (R:AV→Hp→Prop):vT G Q R (dloop (Dc Try.prog [] [(16,objQ 2101 okP1 tsP .same tellK),(22,sigC 2101 okP1),(23,sendC sideP),(24,sameC sideP)] [] 0) 900 20 0 (loopN Try.f5 1) 183 [7,8,9,13,15,16,17,18,19] [.int .i64 (.var 7 gr),.int .i64 (.var 8 sg),.ptr (.rw 0) (.lit 0),.ptr (.rw 28) (.lit 0),.ptr (.rw 29) (.lit 0),.int .i64 (.var 33 ee),.bool (.var 31 b1),.bool (.var 32 b2),.int .i64 (.ofN (.var 4 c))] (objD 1 (.var 6 y)++objE 15 (.var 5 x)++([some ⟨1,.of [.int .i64 (.var 41 m0),.int .i64 (.var 42 m1),.int .i64 (.var 43 m2),.int .i64 (.var 44 m3),.bool (.var 45 m4),.int .i64 (.var 46 m5)]⟩]:DHp)++objD 30 (.var 5 x)))=(
  (decide ((c:Int)≤12)=true→
 (okP1) (okA (1) y)=true∧
 ((xB1 isP) [.agg y,.int .i64 (c:Int)]=true→
 ((xB1 tellEn) [.agg y,.int .i64 (c:Int)]=true→
 (((m3:Int)==0)=true→
 (b1=true→
 (b2=true→
 (okP1) (okA (30) x)=true∧
 (xB1 isP) [.agg x,.int .i64 (c:Int)]=true∧
 (okP1) (okA (1) y)=true∧
 (xB1 isP) [.agg y,.int .i64 (c:Int)]=true∧
 okU [.agg ((sgXU) [.agg x,.int .i64 (c:Int)])]=true∧
 okU [.agg ((sgXU) [.agg y,.int .i64 (c:Int)])]=true∧
 sameU [.agg ((sgXU) [.agg x,.int .i64 (c:Int)]),.agg ((sgXU) [.agg y,.int .i64 (c:Int)])]=true∧
 Q .normal [.int .i64 (gr),.int .i64 (sg),.ptr (.rw 0) (0),.ptr (.rw 28) (0),.ptr (.rw 29) (0),.int .i64 (ee),.bool (true),.bool (true),.int .i64 (IntKind.wrap .i64 ((c:Int)+1))] (objL (1) y++(objU (15) x++([some ⟨1,(meB m0 m1 m2 m3 m4 m5)⟩]++(objL (30) x++[some ⟨1,(tellB y c)⟩,some ⟨1,((sgXU) [.agg x,.int .i64 (c:Int)])⟩,some ⟨1,((sgXU) [.agg y,.int .i64 (c:Int)])⟩])))))∧
 (b2=false→
 (okP1) (okA (30) x)=true∧
 (xB1 isP) [.agg x,.int .i64 (c:Int)]=true∧
 (okP1) (okA (1) y)=true∧
 (xB1 isP) [.agg y,.int .i64 (c:Int)]=true∧
 okU [.agg ((sgXU) [.agg x,.int .i64 (c:Int)])]=true∧
 okU [.agg ((sgXU) [.agg y,.int .i64 (c:Int)])]=true∧
 sameU [.agg ((sgXU) [.agg x,.int .i64 (c:Int)]),.agg ((sgXU) [.agg y,.int .i64 (c:Int)])]=true∧
 Q .normal [.int .i64 (gr),.int .i64 (sg),.ptr (.rw 0) (0),.ptr (.rw 28) (0),.ptr (.rw 29) (0),.int .i64 (ee),.bool (true),.bool (false),.int .i64 (IntKind.wrap .i64 ((c:Int)+1))] (objL (1) y++(objU (15) x++([some ⟨1,(meB m0 m1 m2 m3 m4 m5)⟩]++(objL (30) x++[some ⟨1,(tellB y c)⟩,some ⟨1,((sgXU) [.agg x,.int .i64 (c:Int)])⟩,some ⟨1,((sgXU) [.agg y,.int .i64 (c:Int)])⟩]))))))∧
 (b1=false→
 (b2=true→
 (okP1) (okA (30) x)=true∧
 (xB1 isP) [.agg x,.int .i64 (c:Int)]=true∧
 (okP1) (okA (1) y)=true∧
 (xB1 isP) [.agg y,.int .i64 (c:Int)]=true∧
 okU [.agg ((sgXU) [.agg x,.int .i64 (c:Int)])]=true∧
 okU [.agg ((sgXU) [.agg y,.int .i64 (c:Int)])]=true∧
 sameU [.agg ((sgXU) [.agg x,.int .i64 (c:Int)]),.agg ((sgXU) [.agg y,.int .i64 (c:Int)])]=true∧
 Q .normal [.int .i64 (gr),.int .i64 (sg),.ptr (.rw 0) (0),.ptr (.rw 28) (0),.ptr (.rw 29) (0),.int .i64 (ee),.bool (false),.bool (true),.int .i64 (IntKind.wrap .i64 ((c:Int)+1))] (objL (1) y++(objU (15) x++([some ⟨1,(meB m0 m1 m2 m3 m4 m5)⟩]++(objL (30) x++[some ⟨1,(tellB y c)⟩,some ⟨1,((sgXU) [.agg x,.int .i64 (c:Int)])⟩,some ⟨1,((sgXU) [.agg y,.int .i64 (c:Int)])⟩])))))∧
 (b2=false→
 (okP1) (okA (30) x)=true∧
 (xB1 isP) [.agg x,.int .i64 (c:Int)]=true∧
 (okP1) (okA (1) y)=true∧
 (xB1 isP) [.agg y,.int .i64 (c:Int)]=true∧
 okU [.agg ((sgXU) [.agg x,.int .i64 (c:Int)])]=true∧
 okU [.agg ((sgXU) [.agg y,.int .i64 (c:Int)])]=true∧
 sameU [.agg ((sgXU) [.agg x,.int .i64 (c:Int)]),.agg ((sgXU) [.agg y,.int .i64 (c:Int)])]=true∧
 Q .normal [.int .i64 (gr),.int .i64 (sg),.ptr (.rw 0) (0),.ptr (.rw 28) (0),.ptr (.rw 29) (0),.int .i64 (ee),.bool (false),.bool (false),.int .i64 (IntKind.wrap .i64 ((c:Int)+1))] (objL (1) y++(objU (15) x++([some ⟨1,(meB m0 m1 m2 m3 m4 m5)⟩]++(objL (30) x++[some ⟨1,(tellB y c)⟩,some ⟨1,((sgXU) [.agg x,.int .i64 (c:Int)])⟩,some ⟨1,((sgXU) [.agg y,.int .i64 (c:Int)])⟩])))))))∧
 (((m3:Int)==0)=false→
 (b1=true→
 (b2=true→
 (okP1) (okA (30) x)=true∧
 (xB1 isP) [.agg x,.int .i64 (c:Int)]=true∧
 (okP1) (okA (1) y)=true∧
 (xB1 isP) [.agg y,.int .i64 (c:Int)]=true∧
 okU [.agg ((sgXU) [.agg x,.int .i64 (c:Int)])]=true∧
 okU [.agg ((sgXU) [.agg y,.int .i64 (c:Int)])]=true∧
 sameU [.agg ((sgXU) [.agg x,.int .i64 (c:Int)]),.agg ((sgXU) [.agg y,.int .i64 (c:Int)])]=true∧
 Q .normal [.int .i64 (gr),.int .i64 (sg),.ptr (.rw 0) (0),.ptr (.rw 28) (0),.ptr (.rw 29) (0),.int .i64 (ee),.bool (true),.bool (true),.int .i64 (IntKind.wrap .i64 ((c:Int)+1))] (objL (1) y++(objU (15) x++([some ⟨1,(meB m0 m1 m2 m3 m4 m5)⟩]++(objL (30) x++[some ⟨1,(tellB y c)⟩,some ⟨1,((sgXU) [.agg x,.int .i64 (c:Int)])⟩,some ⟨1,((sgXU) [.agg y,.int .i64 (c:Int)])⟩])))))∧
 (b2=false→
 (okP1) (okA (30) x)=true∧
 (xB1 isP) [.agg x,.int .i64 (c:Int)]=true∧
 (okP1) (okA (1) y)=true∧
 (xB1 isP) [.agg y,.int .i64 (c:Int)]=true∧
 okU [.agg ((sgXU) [.agg x,.int .i64 (c:Int)])]=true∧
 okU [.agg ((sgXU) [.agg y,.int .i64 (c:Int)])]=true∧
 sameU [.agg ((sgXU) [.agg x,.int .i64 (c:Int)]),.agg ((sgXU) [.agg y,.int .i64 (c:Int)])]=true∧
 Q .normal [.int .i64 (gr),.int .i64 (sg),.ptr (.rw 0) (0),.ptr (.rw 28) (0),.ptr (.rw 29) (0),.int .i64 (ee),.bool (true),.bool (false),.int .i64 (IntKind.wrap .i64 ((c:Int)+1))] (objL (1) y++(objU (15) x++([some ⟨1,(meB m0 m1 m2 m3 m4 m5)⟩]++(objL (30) x++[some ⟨1,(tellB y c)⟩,some ⟨1,((sgXU) [.agg x,.int .i64 (c:Int)])⟩,some ⟨1,((sgXU) [.agg y,.int .i64 (c:Int)])⟩]))))))∧
 (b1=false→
 (b2=true→
 (okP1) (okA (30) x)=true∧
 (xB1 isP) [.agg x,.int .i64 (c:Int)]=true∧
 (okP1) (okA (1) y)=true∧
 (xB1 isP) [.agg y,.int .i64 (c:Int)]=true∧
 okU [.agg ((sgXU) [.agg x,.int .i64 (c:Int)])]=true∧
 okU [.agg ((sgXU) [.agg y,.int .i64 (c:Int)])]=true∧
 sameU [.agg ((sgXU) [.agg x,.int .i64 (c:Int)]),.agg ((sgXU) [.agg y,.int .i64 (c:Int)])]=true∧
 Q .normal [.int .i64 (gr),.int .i64 (sg),.ptr (.rw 0) (0),.ptr (.rw 28) (0),.ptr (.rw 29) (0),.int .i64 (ee),.bool (false),.bool (true),.int .i64 (IntKind.wrap .i64 ((c:Int)+1))] (objL (1) y++(objU (15) x++([some ⟨1,(meB m0 m1 m2 m3 m4 m5)⟩]++(objL (30) x++[some ⟨1,(tellB y c)⟩,some ⟨1,((sgXU) [.agg x,.int .i64 (c:Int)])⟩,some ⟨1,((sgXU) [.agg y,.int .i64 (c:Int)])⟩])))))∧
 (b2=false→
 (okP1) (okA (30) x)=true∧
 (xB1 isP) [.agg x,.int .i64 (c:Int)]=true∧
 (okP1) (okA (1) y)=true∧
 (xB1 isP) [.agg y,.int .i64 (c:Int)]=true∧
 okU [.agg ((sgXU) [.agg x,.int .i64 (c:Int)])]=true∧
 okU [.agg ((sgXU) [.agg y,.int .i64 (c:Int)])]=true∧
 sameU [.agg ((sgXU) [.agg x,.int .i64 (c:Int)]),.agg ((sgXU) [.agg y,.int .i64 (c:Int)])]=true∧
 Q .normal [.int .i64 (gr),.int .i64 (sg),.ptr (.rw 0) (0),.ptr (.rw 28) (0),.ptr (.rw 29) (0),.int .i64 (ee),.bool (false),.bool (false),.int .i64 (IntKind.wrap .i64 ((c:Int)+1))] (objL (1) y++(objU (15) x++([some ⟨1,(meB m0 m1 m2 m3 m4 m5)⟩]++(objL (30) x++[some ⟨1,(tellB y c)⟩,some ⟨1,((sgXU) [.agg x,.int .i64 (c:Int)])⟩,some ⟨1,((sgXU) [.agg y,.int .i64 (c:Int)])⟩]))))))))∧
 ((xB1 tellEn) [.agg y,.int .i64 (c:Int)]=false→
 (((m3:Int)==0)=true→
 (b1=true→
 (b2=true→
 (okP1) (okA (30) x)=true∧
 (xB1 isP) [.agg x,.int .i64 (c:Int)]=true∧
 (okP1) (okA (1) y)=true∧
 (xB1 isP) [.agg y,.int .i64 (c:Int)]=true∧
 ((((xI1 tellGrp) [.agg y,.int .i64 (c:Int)]:Int)==gr)=true→
 okU [.agg ((sgXU) [.agg x,.int .i64 (c:Int)])]=true∧
 (inSg) [.int .i64 (sg)]=true∧
 okU [.agg (sendU [.agg ((sgXU) [.agg x,.int .i64 (c:Int)]),.int .i64 (sg)])]=true∧
 okU [.agg ((sgXU) [.agg y,.int .i64 (c:Int)])]=true∧
 sameU [.agg (sendU [.agg ((sgXU) [.agg x,.int .i64 (c:Int)]),.int .i64 (sg)]),.agg ((sgXU) [.agg y,.int .i64 (c:Int)])]=true∧
 Q .normal [.int .i64 (gr),.int .i64 (sg),.ptr (.rw 0) (0),.ptr (.rw 28) (0),.ptr (.rw 29) (0),.int .i64 (ee),.bool (true),.bool (true),.int .i64 (IntKind.wrap .i64 ((c:Int)+1))] (objL (1) y++(objU (15) x++([some ⟨1,(meB m0 m1 m2 m3 m4 m5)⟩]++(objL (30) x++[some ⟨1,(tellB y c)⟩,some ⟨1,(sendU [.agg ((sgXU) [.agg x,.int .i64 (c:Int)]),.int .i64 (sg)])⟩,some ⟨1,((sgXU) [.agg y,.int .i64 (c:Int)])⟩])))))∧
 ((((xI1 tellGrp) [.agg y,.int .i64 (c:Int)]:Int)==gr)=false→
 okU [.agg ((sgXU) [.agg x,.int .i64 (c:Int)])]=true∧
 okU [.agg ((sgXU) [.agg y,.int .i64 (c:Int)])]=true∧
 sameU [.agg ((sgXU) [.agg x,.int .i64 (c:Int)]),.agg ((sgXU) [.agg y,.int .i64 (c:Int)])]=true∧
 Q .normal [.int .i64 (gr),.int .i64 (sg),.ptr (.rw 0) (0),.ptr (.rw 28) (0),.ptr (.rw 29) (0),.int .i64 (ee),.bool (true),.bool (true),.int .i64 (IntKind.wrap .i64 ((c:Int)+1))] (objL (1) y++(objU (15) x++([some ⟨1,(meB m0 m1 m2 m3 m4 m5)⟩]++(objL (30) x++[some ⟨1,(tellB y c)⟩,some ⟨1,((sgXU) [.agg x,.int .i64 (c:Int)])⟩,some ⟨1,((sgXU) [.agg y,.int .i64 (c:Int)])⟩]))))))∧
 (b2=false→
 ((((xI1 tellGrp) [.agg y,.int .i64 (c:Int)]:Int)==gr)=true→
 (okP1) (okA (30) x)=true∧
 (xB1 isP) [.agg x,.int .i64 (c:Int)]=true∧
 (okP1) (okA (1) y)=true∧
 (xB1 isP) [.agg y,.int .i64 (c:Int)]=true∧
 (((xI1 tellGrp) [.agg y,.int .i64 (c:Int)]:Int)==gr)=true∧
 okU [.agg ((sgXU) [.agg x,.int .i64 (c:Int)])]=true∧
 (inSg) [.int .i64 (sg)]=true∧
 okU [.agg (sendU [.agg ((sgXU) [.agg x,.int .i64 (c:Int)]),.int .i64 (sg)])]=true∧
 okU [.agg ((sgXU) [.agg y,.int .i64 (c:Int)])]=true∧
 sameU [.agg (sendU [.agg ((sgXU) [.agg x,.int .i64 (c:Int)]),.int .i64 (sg)]),.agg ((sgXU) [.agg y,.int .i64 (c:Int)])]=true∧
 Q .normal [.int .i64 (gr),.int .i64 (sg),.ptr (.rw 0) (0),.ptr (.rw 28) (0),.ptr (.rw 29) (0),.int .i64 (ee),.bool (true),.bool (true),.int .i64 (IntKind.wrap .i64 ((c:Int)+1))] (objL (1) y++(objU (15) x++([some ⟨1,(meB m0 m1 m2 m3 m4 m5)⟩]++(objL (30) x++[some ⟨1,(tellB y c)⟩,some ⟨1,(sendU [.agg ((sgXU) [.agg x,.int .i64 (c:Int)]),.int .i64 (sg)])⟩,some ⟨1,((sgXU) [.agg y,.int .i64 (c:Int)])⟩])))))∧
 ((((xI1 tellGrp) [.agg y,.int .i64 (c:Int)]:Int)==gr)=false→
 (okP1) (okA (30) x)=true∧
 (xB1 isP) [.agg x,.int .i64 (c:Int)]=true∧
 (okP1) (okA (1) y)=true∧
 (xB1 isP) [.agg y,.int .i64 (c:Int)]=true∧
 (!((((xI1 tellGrp) [.agg y,.int .i64 (c:Int)]:Int)==gr)))=true∧
 okU [.agg ((sgXU) [.agg x,.int .i64 (c:Int)])]=true∧
 okU [.agg ((sgXU) [.agg y,.int .i64 (c:Int)])]=true∧
 sameU [.agg ((sgXU) [.agg x,.int .i64 (c:Int)]),.agg ((sgXU) [.agg y,.int .i64 (c:Int)])]=true∧
 Q .normal [.int .i64 (gr),.int .i64 (sg),.ptr (.rw 0) (0),.ptr (.rw 28) (0),.ptr (.rw 29) (0),.int .i64 (ee),.bool (true),.bool (false),.int .i64 (IntKind.wrap .i64 ((c:Int)+1))] (objL (1) y++(objU (15) x++([some ⟨1,(meB m0 m1 m2 m3 m4 m5)⟩]++(objL (30) x++[some ⟨1,(tellB y c)⟩,some ⟨1,((sgXU) [.agg x,.int .i64 (c:Int)])⟩,some ⟨1,((sgXU) [.agg y,.int .i64 (c:Int)])⟩])))))))∧
 (b1=false→
 (b2=true→
 (okP1) (okA (30) x)=true∧
 (xB1 isP) [.agg x,.int .i64 (c:Int)]=true∧
 (okP1) (okA (1) y)=true∧
 (xB1 isP) [.agg y,.int .i64 (c:Int)]=true∧
 ((((xI1 tellGrp) [.agg y,.int .i64 (c:Int)]:Int)==gr)=true→
 okU [.agg ((sgXU) [.agg x,.int .i64 (c:Int)])]=true∧
 (inSg) [.int .i64 (sg)]=true∧
 okU [.agg (sendU [.agg ((sgXU) [.agg x,.int .i64 (c:Int)]),.int .i64 (sg)])]=true∧
 okU [.agg ((sgXU) [.agg y,.int .i64 (c:Int)])]=true∧
 sameU [.agg (sendU [.agg ((sgXU) [.agg x,.int .i64 (c:Int)]),.int .i64 (sg)]),.agg ((sgXU) [.agg y,.int .i64 (c:Int)])]=true∧
 Q .normal [.int .i64 (gr),.int .i64 (sg),.ptr (.rw 0) (0),.ptr (.rw 28) (0),.ptr (.rw 29) (0),.int .i64 (ee),.bool ((((xI1 tellGrp) [.agg y,.int .i64 (c:Int)]:Int)==gr)),.bool (true),.int .i64 (IntKind.wrap .i64 ((c:Int)+1))] (objL (1) y++(objU (15) x++([some ⟨1,(meB m0 m1 m2 m3 m4 m5)⟩]++(objL (30) x++[some ⟨1,(tellB y c)⟩,some ⟨1,(sendU [.agg ((sgXU) [.agg x,.int .i64 (c:Int)]),.int .i64 (sg)])⟩,some ⟨1,((sgXU) [.agg y,.int .i64 (c:Int)])⟩])))))∧
 ((((xI1 tellGrp) [.agg y,.int .i64 (c:Int)]:Int)==gr)=false→
 okU [.agg ((sgXU) [.agg x,.int .i64 (c:Int)])]=true∧
 okU [.agg ((sgXU) [.agg y,.int .i64 (c:Int)])]=true∧
 sameU [.agg ((sgXU) [.agg x,.int .i64 (c:Int)]),.agg ((sgXU) [.agg y,.int .i64 (c:Int)])]=true∧
 Q .normal [.int .i64 (gr),.int .i64 (sg),.ptr (.rw 0) (0),.ptr (.rw 28) (0),.ptr (.rw 29) (0),.int .i64 (ee),.bool ((((xI1 tellGrp) [.agg y,.int .i64 (c:Int)]:Int)==gr)),.bool (true),.int .i64 (IntKind.wrap .i64 ((c:Int)+1))] (objL (1) y++(objU (15) x++([some ⟨1,(meB m0 m1 m2 m3 m4 m5)⟩]++(objL (30) x++[some ⟨1,(tellB y c)⟩,some ⟨1,((sgXU) [.agg x,.int .i64 (c:Int)])⟩,some ⟨1,((sgXU) [.agg y,.int .i64 (c:Int)])⟩]))))))∧
 (b2=false→
 ((((xI1 tellGrp) [.agg y,.int .i64 (c:Int)]:Int)==gr)=true→
 (okP1) (okA (30) x)=true∧
 (xB1 isP) [.agg x,.int .i64 (c:Int)]=true∧
 (okP1) (okA (1) y)=true∧
 (xB1 isP) [.agg y,.int .i64 (c:Int)]=true∧
 (((xI1 tellGrp) [.agg y,.int .i64 (c:Int)]:Int)==gr)=true∧
 okU [.agg ((sgXU) [.agg x,.int .i64 (c:Int)])]=true∧
 (inSg) [.int .i64 (sg)]=true∧
 okU [.agg (sendU [.agg ((sgXU) [.agg x,.int .i64 (c:Int)]),.int .i64 (sg)])]=true∧
 okU [.agg ((sgXU) [.agg y,.int .i64 (c:Int)])]=true∧
 sameU [.agg (sendU [.agg ((sgXU) [.agg x,.int .i64 (c:Int)]),.int .i64 (sg)]),.agg ((sgXU) [.agg y,.int .i64 (c:Int)])]=true∧
 Q .normal [.int .i64 (gr),.int .i64 (sg),.ptr (.rw 0) (0),.ptr (.rw 28) (0),.ptr (.rw 29) (0),.int .i64 (ee),.bool ((((xI1 tellGrp) [.agg y,.int .i64 (c:Int)]:Int)==gr)),.bool (true),.int .i64 (IntKind.wrap .i64 ((c:Int)+1))] (objL (1) y++(objU (15) x++([some ⟨1,(meB m0 m1 m2 m3 m4 m5)⟩]++(objL (30) x++[some ⟨1,(tellB y c)⟩,some ⟨1,(sendU [.agg ((sgXU) [.agg x,.int .i64 (c:Int)]),.int .i64 (sg)])⟩,some ⟨1,((sgXU) [.agg y,.int .i64 (c:Int)])⟩])))))∧
 ((((xI1 tellGrp) [.agg y,.int .i64 (c:Int)]:Int)==gr)=false→
 (okP1) (okA (30) x)=true∧
 (xB1 isP) [.agg x,.int .i64 (c:Int)]=true∧
 (okP1) (okA (1) y)=true∧
 (xB1 isP) [.agg y,.int .i64 (c:Int)]=true∧
 (!((((xI1 tellGrp) [.agg y,.int .i64 (c:Int)]:Int)==gr)))=true∧
 okU [.agg ((sgXU) [.agg x,.int .i64 (c:Int)])]=true∧
 okU [.agg ((sgXU) [.agg y,.int .i64 (c:Int)])]=true∧
 sameU [.agg ((sgXU) [.agg x,.int .i64 (c:Int)]),.agg ((sgXU) [.agg y,.int .i64 (c:Int)])]=true∧
 Q .normal [.int .i64 (gr),.int .i64 (sg),.ptr (.rw 0) (0),.ptr (.rw 28) (0),.ptr (.rw 29) (0),.int .i64 (ee),.bool ((((xI1 tellGrp) [.agg y,.int .i64 (c:Int)]:Int)==gr)),.bool (false),.int .i64 (IntKind.wrap .i64 ((c:Int)+1))] (objL (1) y++(objU (15) x++([some ⟨1,(meB m0 m1 m2 m3 m4 m5)⟩]++(objL (30) x++[some ⟨1,(tellB y c)⟩,some ⟨1,((sgXU) [.agg x,.int .i64 (c:Int)])⟩,some ⟨1,((sgXU) [.agg y,.int .i64 (c:Int)])⟩]))))))))∧
 (((m3:Int)==0)=false→
 (b1=true→
 (b2=true→
 (okP1) (okA (30) x)=true∧
 (xB1 isP) [.agg x,.int .i64 (c:Int)]=true∧
 (okP1) (okA (1) y)=true∧
 (xB1 isP) [.agg y,.int .i64 (c:Int)]=true∧
 ((((xI1 tellGrp) [.agg y,.int .i64 (c:Int)]:Int)==gr)=true→
 (((m3:Int)==(xI1 tellUsr) [.agg y,.int .i64 (c:Int)])=true→
 okU [.agg ((sgXU) [.agg x,.int .i64 (c:Int)])]=true∧
 (inSg) [.int .i64 (sg)]=true∧
 okU [.agg (sendU [.agg ((sgXU) [.agg x,.int .i64 (c:Int)]),.int .i64 (sg)])]=true∧
 okU [.agg ((sgXU) [.agg y,.int .i64 (c:Int)])]=true∧
 sameU [.agg (sendU [.agg ((sgXU) [.agg x,.int .i64 (c:Int)]),.int .i64 (sg)]),.agg ((sgXU) [.agg y,.int .i64 (c:Int)])]=true∧
 Q .normal [.int .i64 (gr),.int .i64 (sg),.ptr (.rw 0) (0),.ptr (.rw 28) (0),.ptr (.rw 29) (0),.int .i64 (ee),.bool (true),.bool (true),.int .i64 (IntKind.wrap .i64 ((c:Int)+1))] (objL (1) y++(objU (15) x++([some ⟨1,(meB m0 m1 m2 m3 m4 m5)⟩]++(objL (30) x++[some ⟨1,(tellB y c)⟩,some ⟨1,(sendU [.agg ((sgXU) [.agg x,.int .i64 (c:Int)]),.int .i64 (sg)])⟩,some ⟨1,((sgXU) [.agg y,.int .i64 (c:Int)])⟩])))))∧
 (((m3:Int)==(xI1 tellUsr) [.agg y,.int .i64 (c:Int)])=false→
 okU [.agg ((sgXU) [.agg x,.int .i64 (c:Int)])]=true∧
 okU [.agg ((sgXU) [.agg y,.int .i64 (c:Int)])]=true∧
 sameU [.agg ((sgXU) [.agg x,.int .i64 (c:Int)]),.agg ((sgXU) [.agg y,.int .i64 (c:Int)])]=true∧
 Q .normal [.int .i64 (gr),.int .i64 (sg),.ptr (.rw 0) (0),.ptr (.rw 28) (0),.ptr (.rw 29) (0),.int .i64 (ee),.bool (true),.bool (true),.int .i64 (IntKind.wrap .i64 ((c:Int)+1))] (objL (1) y++(objU (15) x++([some ⟨1,(meB m0 m1 m2 m3 m4 m5)⟩]++(objL (30) x++[some ⟨1,(tellB y c)⟩,some ⟨1,((sgXU) [.agg x,.int .i64 (c:Int)])⟩,some ⟨1,((sgXU) [.agg y,.int .i64 (c:Int)])⟩]))))))∧
 ((((xI1 tellGrp) [.agg y,.int .i64 (c:Int)]:Int)==gr)=false→
 okU [.agg ((sgXU) [.agg x,.int .i64 (c:Int)])]=true∧
 okU [.agg ((sgXU) [.agg y,.int .i64 (c:Int)])]=true∧
 sameU [.agg ((sgXU) [.agg x,.int .i64 (c:Int)]),.agg ((sgXU) [.agg y,.int .i64 (c:Int)])]=true∧
 Q .normal [.int .i64 (gr),.int .i64 (sg),.ptr (.rw 0) (0),.ptr (.rw 28) (0),.ptr (.rw 29) (0),.int .i64 (ee),.bool (true),.bool (true),.int .i64 (IntKind.wrap .i64 ((c:Int)+1))] (objL (1) y++(objU (15) x++([some ⟨1,(meB m0 m1 m2 m3 m4 m5)⟩]++(objL (30) x++[some ⟨1,(tellB y c)⟩,some ⟨1,((sgXU) [.agg x,.int .i64 (c:Int)])⟩,some ⟨1,((sgXU) [.agg y,.int .i64 (c:Int)])⟩]))))))∧
 (b2=false→
 ((((xI1 tellGrp) [.agg y,.int .i64 (c:Int)]:Int)==gr)=true→
 (okP1) (okA (30) x)=true∧
 (xB1 isP) [.agg x,.int .i64 (c:Int)]=true∧
 (okP1) (okA (1) y)=true∧
 (xB1 isP) [.agg y,.int .i64 (c:Int)]=true∧
 (((xI1 tellGrp) [.agg y,.int .i64 (c:Int)]:Int)==gr)=true∧
 (((m3:Int)==(xI1 tellUsr) [.agg y,.int .i64 (c:Int)])=true→
 okU [.agg ((sgXU) [.agg x,.int .i64 (c:Int)])]=true∧
 (inSg) [.int .i64 (sg)]=true∧
 okU [.agg (sendU [.agg ((sgXU) [.agg x,.int .i64 (c:Int)]),.int .i64 (sg)])]=true∧
 okU [.agg ((sgXU) [.agg y,.int .i64 (c:Int)])]=true∧
 sameU [.agg (sendU [.agg ((sgXU) [.agg x,.int .i64 (c:Int)]),.int .i64 (sg)]),.agg ((sgXU) [.agg y,.int .i64 (c:Int)])]=true∧
 Q .normal [.int .i64 (gr),.int .i64 (sg),.ptr (.rw 0) (0),.ptr (.rw 28) (0),.ptr (.rw 29) (0),.int .i64 (ee),.bool (true),.bool (((m3:Int)==(xI1 tellUsr) [.agg y,.int .i64 (c:Int)])),.int .i64 (IntKind.wrap .i64 ((c:Int)+1))] (objL (1) y++(objU (15) x++([some ⟨1,(meB m0 m1 m2 m3 m4 m5)⟩]++(objL (30) x++[some ⟨1,(tellB y c)⟩,some ⟨1,(sendU [.agg ((sgXU) [.agg x,.int .i64 (c:Int)]),.int .i64 (sg)])⟩,some ⟨1,((sgXU) [.agg y,.int .i64 (c:Int)])⟩])))))∧
 (((m3:Int)==(xI1 tellUsr) [.agg y,.int .i64 (c:Int)])=false→
 okU [.agg ((sgXU) [.agg x,.int .i64 (c:Int)])]=true∧
 okU [.agg ((sgXU) [.agg y,.int .i64 (c:Int)])]=true∧
 sameU [.agg ((sgXU) [.agg x,.int .i64 (c:Int)]),.agg ((sgXU) [.agg y,.int .i64 (c:Int)])]=true∧
 Q .normal [.int .i64 (gr),.int .i64 (sg),.ptr (.rw 0) (0),.ptr (.rw 28) (0),.ptr (.rw 29) (0),.int .i64 (ee),.bool (true),.bool (((m3:Int)==(xI1 tellUsr) [.agg y,.int .i64 (c:Int)])),.int .i64 (IntKind.wrap .i64 ((c:Int)+1))] (objL (1) y++(objU (15) x++([some ⟨1,(meB m0 m1 m2 m3 m4 m5)⟩]++(objL (30) x++[some ⟨1,(tellB y c)⟩,some ⟨1,((sgXU) [.agg x,.int .i64 (c:Int)])⟩,some ⟨1,((sgXU) [.agg y,.int .i64 (c:Int)])⟩]))))))∧
 ((((xI1 tellGrp) [.agg y,.int .i64 (c:Int)]:Int)==gr)=false→
 (okP1) (okA (30) x)=true∧
 (xB1 isP) [.agg x,.int .i64 (c:Int)]=true∧
 (okP1) (okA (1) y)=true∧
 (xB1 isP) [.agg y,.int .i64 (c:Int)]=true∧
 (!((((xI1 tellGrp) [.agg y,.int .i64 (c:Int)]:Int)==gr)))=true∧
 okU [.agg ((sgXU) [.agg x,.int .i64 (c:Int)])]=true∧
 okU [.agg ((sgXU) [.agg y,.int .i64 (c:Int)])]=true∧
 sameU [.agg ((sgXU) [.agg x,.int .i64 (c:Int)]),.agg ((sgXU) [.agg y,.int .i64 (c:Int)])]=true∧
 Q .normal [.int .i64 (gr),.int .i64 (sg),.ptr (.rw 0) (0),.ptr (.rw 28) (0),.ptr (.rw 29) (0),.int .i64 (ee),.bool (true),.bool (false),.int .i64 (IntKind.wrap .i64 ((c:Int)+1))] (objL (1) y++(objU (15) x++([some ⟨1,(meB m0 m1 m2 m3 m4 m5)⟩]++(objL (30) x++[some ⟨1,(tellB y c)⟩,some ⟨1,((sgXU) [.agg x,.int .i64 (c:Int)])⟩,some ⟨1,((sgXU) [.agg y,.int .i64 (c:Int)])⟩])))))))∧
 (b1=false→
 (b2=true→
 (okP1) (okA (30) x)=true∧
 (xB1 isP) [.agg x,.int .i64 (c:Int)]=true∧
 (okP1) (okA (1) y)=true∧
 (xB1 isP) [.agg y,.int .i64 (c:Int)]=true∧
 ((((xI1 tellGrp) [.agg y,.int .i64 (c:Int)]:Int)==gr)=true→
 (((m3:Int)==(xI1 tellUsr) [.agg y,.int .i64 (c:Int)])=true→
 okU [.agg ((sgXU) [.agg x,.int .i64 (c:Int)])]=true∧
 (inSg) [.int .i64 (sg)]=true∧
 okU [.agg (sendU [.agg ((sgXU) [.agg x,.int .i64 (c:Int)]),.int .i64 (sg)])]=true∧
 okU [.agg ((sgXU) [.agg y,.int .i64 (c:Int)])]=true∧
 sameU [.agg (sendU [.agg ((sgXU) [.agg x,.int .i64 (c:Int)]),.int .i64 (sg)]),.agg ((sgXU) [.agg y,.int .i64 (c:Int)])]=true∧
 Q .normal [.int .i64 (gr),.int .i64 (sg),.ptr (.rw 0) (0),.ptr (.rw 28) (0),.ptr (.rw 29) (0),.int .i64 (ee),.bool ((((xI1 tellGrp) [.agg y,.int .i64 (c:Int)]:Int)==gr)),.bool (true),.int .i64 (IntKind.wrap .i64 ((c:Int)+1))] (objL (1) y++(objU (15) x++([some ⟨1,(meB m0 m1 m2 m3 m4 m5)⟩]++(objL (30) x++[some ⟨1,(tellB y c)⟩,some ⟨1,(sendU [.agg ((sgXU) [.agg x,.int .i64 (c:Int)]),.int .i64 (sg)])⟩,some ⟨1,((sgXU) [.agg y,.int .i64 (c:Int)])⟩])))))∧
 (((m3:Int)==(xI1 tellUsr) [.agg y,.int .i64 (c:Int)])=false→
 okU [.agg ((sgXU) [.agg x,.int .i64 (c:Int)])]=true∧
 okU [.agg ((sgXU) [.agg y,.int .i64 (c:Int)])]=true∧
 sameU [.agg ((sgXU) [.agg x,.int .i64 (c:Int)]),.agg ((sgXU) [.agg y,.int .i64 (c:Int)])]=true∧
 Q .normal [.int .i64 (gr),.int .i64 (sg),.ptr (.rw 0) (0),.ptr (.rw 28) (0),.ptr (.rw 29) (0),.int .i64 (ee),.bool ((((xI1 tellGrp) [.agg y,.int .i64 (c:Int)]:Int)==gr)),.bool (true),.int .i64 (IntKind.wrap .i64 ((c:Int)+1))] (objL (1) y++(objU (15) x++([some ⟨1,(meB m0 m1 m2 m3 m4 m5)⟩]++(objL (30) x++[some ⟨1,(tellB y c)⟩,some ⟨1,((sgXU) [.agg x,.int .i64 (c:Int)])⟩,some ⟨1,((sgXU) [.agg y,.int .i64 (c:Int)])⟩]))))))∧
 ((((xI1 tellGrp) [.agg y,.int .i64 (c:Int)]:Int)==gr)=false→
 okU [.agg ((sgXU) [.agg x,.int .i64 (c:Int)])]=true∧
 okU [.agg ((sgXU) [.agg y,.int .i64 (c:Int)])]=true∧
 sameU [.agg ((sgXU) [.agg x,.int .i64 (c:Int)]),.agg ((sgXU) [.agg y,.int .i64 (c:Int)])]=true∧
 Q .normal [.int .i64 (gr),.int .i64 (sg),.ptr (.rw 0) (0),.ptr (.rw 28) (0),.ptr (.rw 29) (0),.int .i64 (ee),.bool ((((xI1 tellGrp) [.agg y,.int .i64 (c:Int)]:Int)==gr)),.bool (true),.int .i64 (IntKind.wrap .i64 ((c:Int)+1))] (objL (1) y++(objU (15) x++([some ⟨1,(meB m0 m1 m2 m3 m4 m5)⟩]++(objL (30) x++[some ⟨1,(tellB y c)⟩,some ⟨1,((sgXU) [.agg x,.int .i64 (c:Int)])⟩,some ⟨1,((sgXU) [.agg y,.int .i64 (c:Int)])⟩]))))))∧
 (b2=false→
 ((((xI1 tellGrp) [.agg y,.int .i64 (c:Int)]:Int)==gr)=true→
 (okP1) (okA (30) x)=true∧
 (xB1 isP) [.agg x,.int .i64 (c:Int)]=true∧
 (okP1) (okA (1) y)=true∧
 (xB1 isP) [.agg y,.int .i64 (c:Int)]=true∧
 (((xI1 tellGrp) [.agg y,.int .i64 (c:Int)]:Int)==gr)=true∧
 (((m3:Int)==(xI1 tellUsr) [.agg y,.int .i64 (c:Int)])=true→
 okU [.agg ((sgXU) [.agg x,.int .i64 (c:Int)])]=true∧
 (inSg) [.int .i64 (sg)]=true∧
 okU [.agg (sendU [.agg ((sgXU) [.agg x,.int .i64 (c:Int)]),.int .i64 (sg)])]=true∧
 okU [.agg ((sgXU) [.agg y,.int .i64 (c:Int)])]=true∧
 sameU [.agg (sendU [.agg ((sgXU) [.agg x,.int .i64 (c:Int)]),.int .i64 (sg)]),.agg ((sgXU) [.agg y,.int .i64 (c:Int)])]=true∧
 Q .normal [.int .i64 (gr),.int .i64 (sg),.ptr (.rw 0) (0),.ptr (.rw 28) (0),.ptr (.rw 29) (0),.int .i64 (ee),.bool ((((xI1 tellGrp) [.agg y,.int .i64 (c:Int)]:Int)==gr)),.bool (((m3:Int)==(xI1 tellUsr) [.agg y,.int .i64 (c:Int)])),.int .i64 (IntKind.wrap .i64 ((c:Int)+1))] (objL (1) y++(objU (15) x++([some ⟨1,(meB m0 m1 m2 m3 m4 m5)⟩]++(objL (30) x++[some ⟨1,(tellB y c)⟩,some ⟨1,(sendU [.agg ((sgXU) [.agg x,.int .i64 (c:Int)]),.int .i64 (sg)])⟩,some ⟨1,((sgXU) [.agg y,.int .i64 (c:Int)])⟩])))))∧
 (((m3:Int)==(xI1 tellUsr) [.agg y,.int .i64 (c:Int)])=false→
 okU [.agg ((sgXU) [.agg x,.int .i64 (c:Int)])]=true∧
 okU [.agg ((sgXU) [.agg y,.int .i64 (c:Int)])]=true∧
 sameU [.agg ((sgXU) [.agg x,.int .i64 (c:Int)]),.agg ((sgXU) [.agg y,.int .i64 (c:Int)])]=true∧
 Q .normal [.int .i64 (gr),.int .i64 (sg),.ptr (.rw 0) (0),.ptr (.rw 28) (0),.ptr (.rw 29) (0),.int .i64 (ee),.bool ((((xI1 tellGrp) [.agg y,.int .i64 (c:Int)]:Int)==gr)),.bool (((m3:Int)==(xI1 tellUsr) [.agg y,.int .i64 (c:Int)])),.int .i64 (IntKind.wrap .i64 ((c:Int)+1))] (objL (1) y++(objU (15) x++([some ⟨1,(meB m0 m1 m2 m3 m4 m5)⟩]++(objL (30) x++[some ⟨1,(tellB y c)⟩,some ⟨1,((sgXU) [.agg x,.int .i64 (c:Int)])⟩,some ⟨1,((sgXU) [.agg y,.int .i64 (c:Int)])⟩]))))))∧
 ((((xI1 tellGrp) [.agg y,.int .i64 (c:Int)]:Int)==gr)=false→
 (okP1) (okA (30) x)=true∧
 (xB1 isP) [.agg x,.int .i64 (c:Int)]=true∧
 (okP1) (okA (1) y)=true∧
 (xB1 isP) [.agg y,.int .i64 (c:Int)]=true∧
 (!((((xI1 tellGrp) [.agg y,.int .i64 (c:Int)]:Int)==gr)))=true∧
 okU [.agg ((sgXU) [.agg x,.int .i64 (c:Int)])]=true∧
 okU [.agg ((sgXU) [.agg y,.int .i64 (c:Int)])]=true∧
 sameU [.agg ((sgXU) [.agg x,.int .i64 (c:Int)]),.agg ((sgXU) [.agg y,.int .i64 (c:Int)])]=true∧
 Q .normal [.int .i64 (gr),.int .i64 (sg),.ptr (.rw 0) (0),.ptr (.rw 28) (0),.ptr (.rw 29) (0),.int .i64 (ee),.bool ((((xI1 tellGrp) [.agg y,.int .i64 (c:Int)]:Int)==gr)),.bool (false),.int .i64 (IntKind.wrap .i64 ((c:Int)+1))] (objL (1) y++(objU (15) x++([some ⟨1,(meB m0 m1 m2 m3 m4 m5)⟩]++(objL (30) x++[some ⟨1,(tellB y c)⟩,some ⟨1,((sgXU) [.agg x,.int .i64 (c:Int)])⟩,some ⟨1,((sgXU) [.agg y,.int .i64 (c:Int)])⟩]))))))))))∧
 ((xB1 isP) [.agg y,.int .i64 (c:Int)]=false→
 Q .normal [.int .i64 (gr),.int .i64 (sg),.ptr (.rw 0) (0),.ptr (.rw 28) (0),.ptr (.rw 29) (0),.int .i64 (ee),.bool (b1),.bool (b2),.int .i64 (IntKind.wrap .i64 ((c:Int)+1))] (objL (1) y++(objU (15) x++([some ⟨1,(meB m0 m1 m2 m3 m4 m5)⟩]++(objL (30) x++[some ⟨1,(tellB y c)⟩]))))))∧
 (decide ((c:Int)≤12)=false→
 Q (.exit 2) [.int .i64 (gr),.int .i64 (sg),.ptr (.rw 0) (0),.ptr (.rw 28) (0),.ptr (.rw 29) (0),.int .i64 (ee),.bool (b1),.bool (b2),.int .i64 (c:Int)] (objL (1) y++(objU (15) x++([some ⟨1,(meB m0 m1 m2 m3 m4 m5)⟩]++objL (30) x))))):=by kernel_rfl
theorem pg_c (G:Nat→List AV) (okP1 ra rb:List AV→Bool) (x:List AV) (k n:Nat) (nn gr sg ee:Int) (b1 b2:Bool) (Q:Ex→List AV→Hp→Prop) (R:AV→Hp→Prop):vT G Q R (dlaw (Dc Try.prog [14] [(9,knownS),(10,newQ 2101 tsP),(17,newQ 2251 tsR),(16,objQ 2101 okP1 tsP .same tellK),(20,objQ 2101 okP1 tsP .same livesK),(12,copyQ 2101 okP1 tsP),(21,objQ 2101 okP1 tsP .stay killK)] [DLat 2495 (ra) 0 183 [0,1,7,8,9,10,11,12] (.one (.exit 0) [.undef,.int .i64 (.var 21 nn),.int .i64 (.var 7 gr),.int .i64 (.var 8 sg),.ptr (.rw 0) (.lit 0),.ptr (.rw 14) (.lit 0),.bool (.lit true),.undef] (objD 1 (.var 5 x)++objE 15 (.var 5 x))),DLat 2496 (rb) 2 183 [7,8,9,13,15,16,17,18,19] (.one (.exit 2) [.undef,.undef,.undef,.undef,.undef,.int .i64 (.var 33 ee),.bool (.var 31 b1),.bool (.var 32 b2),.undef] [])] 0) 900 20 Try.f5 [.slice true (.ro (.var 2 k)) (.lit 0) (.var 3 n),.int .i64 (.var 21 nn),.agg (.of [.int .i64 (.var 7 gr),.int .i64 (.var 8 sg)])] [])=(
  (decide ((gr:Int)<1)=true→
 R (.bool (true)) [])∧
 (decide ((gr:Int)<1)=false→
 (decide ((gr:Int)>12)=true→
 R (.bool (true)) [])∧
 (decide ((gr:Int)>12)=false→
 (decide ((sg:Int)<2)=true→
 R (.bool (true)) [])∧
 (decide ((sg:Int)<2)=false→
 (decide ((sg:Int)>15)=true→
 R (.bool (true)) [])∧
 (decide ((sg:Int)>15)=false→
 (ra) [.agg ([.slice true (.ro (k)) (0) (n),.int .i64 (nn),.int .i64 (gr),.int .i64 (sg),.ptr (.rw 1) (0),.ptr (.rw 15) (0),.bool (true),.int .i64 (0)]:List AV),.agg ([.tup [.int .i64 (1),.agg ([.int .i64 (gr),.int .i64 (sg)]:List AV)],.tup [.int .i64 (1),.agg ((tabF tsP) [.int .i64 (2),.agg ((new0U) [])])],.tup [.int .i64 (1),.agg ((setF tsP 0) [.agg ((new0U) [])])],.tup [.int .i64 (1),.agg ((setF tsP 1) [.agg ((new0U) [])])],.tup [.int .i64 (1),.agg ((setF tsP 2) [.agg ((new0U) [])])],.tup [.int .i64 (1),.agg ((setF tsP 3) [.agg ((new0U) [])])],.tup [.int .i64 (1),.agg ((setF tsP 4) [.agg ((new0U) [])])],.tup [.int .i64 (1),.agg ((setF tsP 5) [.agg ((new0U) [])])],.tup [.int .i64 (1),.agg ((setF tsP 6) [.agg ((new0U) [])])],.tup [.int .i64 (1),.agg ((setF tsP 7) [.agg ((new0U) [])])],.tup [.int .i64 (1),.agg ((setF tsP 8) [.agg ((new0U) [])])],.tup [.int .i64 (1),.agg ((setF tsP 9) [.agg ((new0U) [])])],.tup [.int .i64 (1),.agg ((setF tsP 10) [.agg ((new0U) [])])],.tup [.int .i64 (1),.agg ((setF tsP 11) [.agg ((new0U) [])])],.tup [.int .i64 (1),.agg ((setF tsP 12) [.agg ((new0U) [])])],.tup [.int .i64 (1),.agg ((tabF tsR) [.int .i64 (16),.agg ((new0U) [])])],.tup [.int .i64 (1),.agg ((setF tsR 0) [.agg ((new0U) [])])],.tup [.int .i64 (1),.agg ((setF tsR 1) [.agg ((new0U) [])])],.tup [.int .i64 (1),.agg ((setF tsR 2) [.agg ((new0U) [])])],.tup [.int .i64 (1),.agg ((setF tsR 3) [.agg ((new0U) [])])],.tup [.int .i64 (1),.agg ((setF tsR 4) [.agg ((new0U) [])])],.tup [.int .i64 (1),.agg ((setF tsR 5) [.agg ((new0U) [])])],.tup [.int .i64 (1),.agg ((setF tsR 6) [.agg ((new0U) [])])],.tup [.int .i64 (1),.agg ((setF tsR 7) [.agg ((new0U) [])])],.tup [.int .i64 (1),.agg ((setF tsR 8) [.agg ((new0U) [])])],.tup [.int .i64 (1),.agg ((setF tsR 9) [.agg ((new0U) [])])],.tup [.int .i64 (1),.agg ((setF tsR 10) [.agg ((new0U) [])])],.tup [.int .i64 (1),.agg ((setF tsR 11) [.agg ((new0U) [])])],.tup [.int .i64 (1),.agg ((setF tsR 12) [.agg ((new0U) [])])]]:List AV)]=true∧
 (okP1) (okA (1) x)=true∧
 ((xB1 live) [.agg x,.int .i64 (nn)]=true→
 (okP1) (okA (1) x)=true∧
 (okP1) (okA (1) x)=true∧
 (okP1) (okA (1) x)=true∧
 (rb) [.agg ([.int .i64 (gr),.int .i64 (sg),.ptr (.rw 0) (0),.ptr (.rw 28) (0),.ptr (.rw 29) (0),.int .i64 ((xI3 killE) [.agg x,.int .i64 (nn),.int .i64 (IntKind.wrap .i64 (0 - (gr))),.int .i64 (sg)]),.bool (false),.bool (false),.int .i64 (1)]:List AV),.agg ([.tup [.int .i64 (1),.agg ((tabF tsP) [.int .i64 (1),.agg ((xX3 killX) [.agg x,.int .i64 (nn),.int .i64 (IntKind.wrap .i64 (0 - (gr))),.int .i64 (sg)])])],.tup [.int .i64 (1),.agg ((setF tsP 0) [.agg ((xX3 killX) [.agg x,.int .i64 (nn),.int .i64 (IntKind.wrap .i64 (0 - (gr))),.int .i64 (sg)])])],.tup [.int .i64 (1),.agg ((setF tsP 1) [.agg ((xX3 killX) [.agg x,.int .i64 (nn),.int .i64 (IntKind.wrap .i64 (0 - (gr))),.int .i64 (sg)])])],.tup [.int .i64 (1),.agg ((setF tsP 2) [.agg ((xX3 killX) [.agg x,.int .i64 (nn),.int .i64 (IntKind.wrap .i64 (0 - (gr))),.int .i64 (sg)])])],.tup [.int .i64 (1),.agg ((setF tsP 3) [.agg ((xX3 killX) [.agg x,.int .i64 (nn),.int .i64 (IntKind.wrap .i64 (0 - (gr))),.int .i64 (sg)])])],.tup [.int .i64 (1),.agg ((setF tsP 4) [.agg ((xX3 killX) [.agg x,.int .i64 (nn),.int .i64 (IntKind.wrap .i64 (0 - (gr))),.int .i64 (sg)])])],.tup [.int .i64 (1),.agg ((setF tsP 5) [.agg ((xX3 killX) [.agg x,.int .i64 (nn),.int .i64 (IntKind.wrap .i64 (0 - (gr))),.int .i64 (sg)])])],.tup [.int .i64 (1),.agg ((setF tsP 6) [.agg ((xX3 killX) [.agg x,.int .i64 (nn),.int .i64 (IntKind.wrap .i64 (0 - (gr))),.int .i64 (sg)])])],.tup [.int .i64 (1),.agg ((setF tsP 7) [.agg ((xX3 killX) [.agg x,.int .i64 (nn),.int .i64 (IntKind.wrap .i64 (0 - (gr))),.int .i64 (sg)])])],.tup [.int .i64 (1),.agg ((setF tsP 8) [.agg ((xX3 killX) [.agg x,.int .i64 (nn),.int .i64 (IntKind.wrap .i64 (0 - (gr))),.int .i64 (sg)])])],.tup [.int .i64 (1),.agg ((setF tsP 9) [.agg ((xX3 killX) [.agg x,.int .i64 (nn),.int .i64 (IntKind.wrap .i64 (0 - (gr))),.int .i64 (sg)])])],.tup [.int .i64 (1),.agg ((setF tsP 10) [.agg ((xX3 killX) [.agg x,.int .i64 (nn),.int .i64 (IntKind.wrap .i64 (0 - (gr))),.int .i64 (sg)])])],.tup [.int .i64 (1),.agg ((setF tsP 11) [.agg ((xX3 killX) [.agg x,.int .i64 (nn),.int .i64 (IntKind.wrap .i64 (0 - (gr))),.int .i64 (sg)])])],.tup [.int .i64 (1),.agg ((setF tsP 12) [.agg ((xX3 killX) [.agg x,.int .i64 (nn),.int .i64 (IntKind.wrap .i64 (0 - (gr))),.int .i64 (sg)])])],.tup [.int .i64 (1),.agg ((tabF tsR) [.int .i64 (15),.agg x])],.tup [.int .i64 (1),.agg ((setF tsR 0) [.agg x])],.tup [.int .i64 (1),.agg ((setF tsR 1) [.agg x])],.tup [.int .i64 (1),.agg ((setF tsR 2) [.agg x])],.tup [.int .i64 (1),.agg ((setF tsR 3) [.agg x])],.tup [.int .i64 (1),.agg ((setF tsR 4) [.agg x])],.tup [.int .i64 (1),.agg ((setF tsR 5) [.agg x])],.tup [.int .i64 (1),.agg ((setF tsR 6) [.agg x])],.tup [.int .i64 (1),.agg ((setF tsR 7) [.agg x])],.tup [.int .i64 (1),.agg ((setF tsR 8) [.agg x])],.tup [.int .i64 (1),.agg ((setF tsR 9) [.agg x])],.tup [.int .i64 (1),.agg ((setF tsR 10) [.agg x])],.tup [.int .i64 (1),.agg ((setF tsR 11) [.agg x])],.tup [.int .i64 (1),.agg ((setF tsR 12) [.agg x])],.tup [.int .i64 (1),.agg ([.int .i64 ((xI1 tellNum) [.agg x,.int .i64 (nn)]),.int .i64 ((xI1 tellPar) [.agg x,.int .i64 (nn)]),.int .i64 ((xI1 tellGrp) [.agg x,.int .i64 (nn)]),.int .i64 ((xI1 tellUsr) [.agg x,.int .i64 (nn)]),.bool ((xB1 tellEn) [.agg x,.int .i64 (nn)]),.int .i64 ((xI1 tellSt) [.agg x,.int .i64 (nn)])]:List AV)],.tup [.int .i64 (1),.agg ((tabF tsP) [.int .i64 (30),.agg x])],.tup [.int .i64 (1),.agg ((setF tsP 0) [.agg x])],.tup [.int .i64 (1),.agg ((setF tsP 1) [.agg x])],.tup [.int .i64 (1),.agg ((setF tsP 2) [.agg x])],.tup [.int .i64 (1),.agg ((setF tsP 3) [.agg x])],.tup [.int .i64 (1),.agg ((setF tsP 4) [.agg x])],.tup [.int .i64 (1),.agg ((setF tsP 5) [.agg x])],.tup [.int .i64 (1),.agg ((setF tsP 6) [.agg x])],.tup [.int .i64 (1),.agg ((setF tsP 7) [.agg x])],.tup [.int .i64 (1),.agg ((setF tsP 8) [.agg x])],.tup [.int .i64 (1),.agg ((setF tsP 9) [.agg x])],.tup [.int .i64 (1),.agg ((setF tsP 10) [.agg x])],.tup [.int .i64 (1),.agg ((setF tsP 11) [.agg x])],.tup [.int .i64 (1),.agg ((setF tsP 12) [.agg x])]]:List AV)]=true∧
 (((ee:Int)==0)=true→
 (b2=true→
 (b1=true→
 (!(((ee:Int)==8)))=true∧
 b2=true∧
 (!(((ee:Int)==6)))=true∧
 b1=true∧
 R (.bool (true)) [])∧
 (b1=false→
 (!(((ee:Int)==8)))=true∧
 (!(((ee:Int)==6)))=true∧
 (!(b1))=true∧
 R (.bool (false)) []))∧
 (b2=false→
 R (.bool (false)) []))∧
 (((ee:Int)==0)=false→
 (b2=true→
 R (.bool (false)) [])∧
 (b2=false→
 (b1=true→
 (((ee:Int)==8)=true→
 (!(b2))=true∧
 (!(((ee:Int)==6)))=true∧
 b1=true∧
 R (.bool (true)) [])∧
 (((ee:Int)==8)=false→
 (!(b2))=true∧
 R (.bool (false)) []))∧
 (b1=false→
 (((ee:Int)==8)=true→
 R (.bool (false)) [])∧
 (((ee:Int)==8)=false→
 (((ee:Int)==6)=true→
 (!(b1))=true∧
 R (.bool (true)) [])∧
 (((ee:Int)==6)=false→
 (!(b1))=true∧
 R (.bool (false)) []))))))∧
 ((xB1 live) [.agg x,.int .i64 (nn)]=false→
 R (.bool (true)) [])))))):=by kernel_rfl
end Go.Am
namespace Go.Am
open Crc
theorem kR_keep {s:Ptb} (hw:Wf s) {to sg me:Int} (hto:to≤0) {c i:Nat} (hi:i≤12) (hc:i≠c):(kR s to sg me (i+1)).1.sg c=(kR s to sg me i).1.sg c:=by
 by_cases h0:i=0
 ·subst h0
  rw [kR_0 hw];rfl
 ·rw [kR_neg hw hto (by omega) hi]
  split
  ·split
   ·show (if c=i then _ else (kR s to sg me i).1.sg c)=_
    rw [if_neg (fun e=>hc e.symm)]
   ·rfl
  ·rfl
theorem kR_lo {s:Ptb} (hw:Wf s) {to sg me:Int} (hto:to≤0) {c:Nat}:∀ k,k≤c→k≤13→(kR s to sg me k).1.sg c=s.sg c:=by
 intro k
 induction k with
 | zero=>intro _ _;rfl
 | succ k ih=>
  intro h1 h2
  rw [kR_keep hw hto (by omega) (by omega),ih (by omega) (by omega)]
theorem kR_hi {s:Ptb} (hw:Wf s) {to sg me:Int} (hto:to≤0) {c:Nat}:∀ d,c+1+d≤13→(kR s to sg me (c+1+d)).1.sg c=(kR s to sg me (c+1)).1.sg c:=by
 intro d
 induction d with
 | zero=>intro _;rfl
 | succ d ih=>
  intro h
  rw [show c+1+(d+1)=(c+1+d)+1 by omega,kR_keep hw hto (by omega) (by omega),ih (by omega)]
def hits (s:Ptb) (to me:Int) (c:Nat):Bool:=live s (c:Int)&&(-(s.at_ c).grp==to&&kMy (s.at_ c) me)
theorem kR_set {s:Ptb} (hw:Wf s) {to sg me:Int} (hto:to≤0) {c:Nat} (h1:1≤c) (h2:c≤12):sgD (kR s to sg me 13).1 c=if hits s to me c=true then sendX (sgD s c) sg else sgD s c:=by
 have e:=kR_hi (sg:=sg) (me:=me) hw hto (c:=c) (12 - c) (by omega)
 rw [show c+1+(12 - c)=13 by omega] at e
 have e0:=kR_lo (sg:=sg) (me:=me) hw hto (c:=c) c (Nat.le_refl _) (by omega)
 have ed:sgD (kR s to sg me c).1 c=sgD s c:=by unfold sgD;rw [e0]
 unfold sgD at ed ⊢
 rw [e,kR_neg hw hto h1 h2]
 by_cases a:live s (c:Int)=true∧-(s.at_ c).grp=to
 ·rw [if_pos a]
  by_cases b:kMy (s.at_ c) me=true
  ·have hh:hits s to me c=true:=by unfold hits;rw [a.1,a.2,b];simp
   rw [if_pos b,if_pos hh]
   show ((if c=c then some (sendX (sgD (kR s to sg me c).1 c) sg) else _).getD zeroP)=_
   rw [if_pos rfl]
   show sendX (sgD (kR s to sg me c).1 c) sg=_
   unfold sgD
   rw [ed]
  ·have hh:¬hits s to me c=true:=by unfold hits;simp [b]
   rw [if_neg b,if_neg hh]
   exact ed
 ·have hh:¬hits s to me c=true:=by
   unfold hits
   intro h
   simp only [Bool.and_eq_true,beq_iff_eq] at h
   exact a ⟨h.1,h.2.1⟩
  rw [if_neg a,if_neg hh]
  exact ed
theorem kR_sent {s:Ptb} (hw:Wf s) {to sg me:Int} (hto:to≤0):∀ k,k≤13→(kR s to sg me k).2.1=true→(kR s to sg me k).2.2=true:=by
 intro k
 induction k with
 | zero=>intro _ h;cases h
 | succ k ih=>
  intro hk h
  by_cases h0:k=0
  ·subst h0
   rw [kR_0 hw] at h;cases h
  ·rw [kR_neg hw hto (by omega) (by omega)] at h ⊢
   split at h
   ·rename_i a
    rw [if_pos a]
    split at h
    ·rename_i b
     rw [if_pos b]
    ·rename_i b
     rw [if_neg b]
   ·rename_i a
    rw [if_neg a]
    exact ih (by omega) h
theorem kR_next {s:Ptb} (hw:Wf s) {to sg me:Int} (hto:to≤0) {i:Nat} (h1:1≤i) (h2:i≤12):(kR s to sg me (i+1)).2=if live s (i:Int)=true∧-(s.at_ i).grp=to then (if kMy (s.at_ i) me=true then (true,true) else ((kR s to sg me i).2.1,true)) else (kR s to sg me i).2:=by
 rw [kR_neg hw hto h1 h2]
 split
 ·split<;>rfl
 ·rfl
theorem killE_grp {s:Ptb} {n to sg:Int} (hl:live s n=true) (ht:to≠0) (h1:0≤sg) (h2:sg≤15):killE s n to sg=(if (kR s to sg (s.at_ n.toNat).usr 13).2.2=true then (if (kR s to sg (s.at_ n.toNat).usr 13).2.1=true then 0 else 8) else 6)∧killX s n to sg=(kR s to sg (s.at_ n.toNat).usr 13).1:=by
 have hg:¬killG to sg=true:=by
  unfold killG
  simp only [Bool.or_eq_true,decide_eq_true_eq,beq_iff_eq]
  omega
 unfold killE killX killU
 rw [if_pos hl,if_pos hl,if_neg hg,if_neg hg]
 exact ⟨rfl,rfl⟩
end Go.Am
namespace Go.Am
open Go.Proofs Crc
set_option maxRecDepth 100000
end Go.Am
namespace Go.Am
open Crc
end Go.Am
namespace Go.Am
open Go.Proofs Crc
set_option maxRecDepth 100000
end Go.Am
namespace Go.Am
open Crc
set_option maxRecDepth 100000
end Go.Am
