/-
  The document's sets: what its calls do. The document's sets: Take and Child.
-/
import Derived.Test.YtkabjomhnddnoaaPart11
import Derived.Test.YtkabjomhnddnoaaBase6
import Derived.Test.YtkabjomhnddnoaaBase5
namespace Go.Am
open Go.Proofs Crc
set_option maxRecDepth 100000
theorem dg0 (G:Nat→List AV) (B:Nat):DGood (⟨Try.prog,G,B⟩:Ctx) (Dc Try.prog [] [] [] 0) []:=dgood (mix G B) (by kernel_rfl) .nil .nil
theorem t34 (G:Nat→List AV) (cs:List AV) (n:Int) (Q:Ex→List AV→Hp→Prop) (R:AV→Hp→Prop):vT G Q R (dcall (Dc Try.prog [] [] [] 0) 200 10 Try.f71 [.ptr (.rw 0) (.lit 0),.int .i64 (.var 2 n)] [some ⟨1,.uf 1002 encRU [.agg (.var 1 cs)]⟩] 1)=(
  (decide ((n:Int)<0)=true→
 R (.int .i64 (2)) [some ⟨1,(encRU [.agg cs])⟩])∧
 (decide ((n:Int)<0)=false→
 (decide ((n:Int)>15)=true→
 R (.int .i64 (2)) [some ⟨1,(encRU [.agg cs])⟩])∧
 (decide ((n:Int)>15)=false→
 (decide ((n:Int)>0)=true→
 decide ((0:Int)≤n)=true∧
 decide ((n:Int)<16)=true∧
 leB (Int.toNat (n)+1) (List.length (encRU [.agg cs]))=true∧
 R (.int .i64 (0)) [some ⟨1,(setPart (encRU [.agg cs]) (Int.toNat (n)) (.bool (true)))⟩])∧
 (decide ((n:Int)>0)=false→
 R (.int .i64 (0)) [some ⟨1,(encRU [.agg cs])⟩])))):=by kernel_rfl
theorem t36 (G:Nat→List AV) (cs:List AV) (n a:Int) (Q:Ex→List AV→Hp→Prop) (R:AV→Hp→Prop):vT G Q R (dcall (Dc Try.prog [] [] [] 0) 200 10 Try.f74 [.ptr (.rw 0) (.lit 0),.int .i64 (.var 2 n),.int .i64 (.var 3 a)] [some ⟨1,.uf 1002 encRU [.agg (.var 1 cs)]⟩] 1)=(
  (decide ((n:Int)<2)=true→
 R (.tup [.int .i64 (0),.int .i64 (2)]) [some ⟨1,(encRU [.agg cs])⟩])∧
 (decide ((n:Int)<2)=false→
 (decide ((n:Int)>15)=true→
 R (.tup [.int .i64 (0),.int .i64 (2)]) [some ⟨1,(encRU [.agg cs])⟩])∧
 (decide ((n:Int)>15)=false→
 (decide ((a:Int)<0)=true→
 R (.tup [.int .i64 (0),.int .i64 (2)]) [some ⟨1,(encRU [.agg cs])⟩])∧
 (decide ((a:Int)<0)=false→
 (decide ((a:Int)>4294967295)=true→
 R (.tup [.int .i64 (0),.int .i64 (2)]) [some ⟨1,(encRU [.agg cs])⟩])∧
 (decide ((a:Int)>4294967295)=false→
 decide ((0:Int)≤n)=true∧
 decide ((n:Int)<16)=true∧
 isI .u32 (encRU [.agg cs]) (Int.toNat (n)+32)=true∧
 decide ((0:Int)≤n)=true∧
 decide ((n:Int)<16)=true∧
 leB (Int.toNat (n)+33) (List.length (encRU [.agg cs]))=true∧
 R (.tup [.int .i64 (IntKind.wrap .i64 (getI (encRU [.agg cs]) (Int.toNat (n)+32))),.int .i64 (0)]) [some ⟨1,(setPart (encRU [.agg cs]) (Int.toNat (n)+32) (.int .u32 (IntKind.wrap .u32 (a))))⟩]))))):=by kernel_rfl
theorem t39 (G:Nat→List AV) (cs:List AV) (Q:Ex→List AV→Hp→Prop) (R:AV→Hp→Prop):vT G Q R (dcall (Dc Try.prog [] [] [] 0) 200 10 Try.f68 [.ptr (.rw 0) (.lit 0)] [some ⟨1,.uf 1002 encRU [.agg (.var 1 cs)]⟩] 2)=(
  leB (32) (List.length (encRU [.agg cs]))=true∧
 leB (48) (List.length (encRU [.agg cs]))=true∧
 Nat.beq (List.length (subL (encRU [.agg cs]) (16) (16))) (16)=true∧
 Nat.beq (List.length (subL (encRU [.agg cs]) (32) (16))) (16)=true∧
 leB (48) (List.length (setPart ([.bool (false),.bool (false),.bool (false),.bool (false),.bool (false),.bool (false),.bool (false),.bool (false),.bool (false),.bool (false),.bool (false),.bool (false),.bool (false),.bool (false),.bool (false),.bool (false),.bool (false),.bool (false),.bool (false),.bool (false),.bool (false),.bool (false),.bool (false),.bool (false),.bool (false),.bool (false),.bool (false),.bool (false),.bool (false),.bool (false),.bool (false),.bool (false),.int .u32 (0),.int .u32 (0),.int .u32 (0),.int .u32 (0),.int .u32 (0),.int .u32 (0),.int .u32 (0),.int .u32 (0),.int .u32 (0),.int .u32 (0),.int .u32 (0),.int .u32 (0),.int .u32 (0),.int .u32 (0),.int .u32 (0),.int .u32 (0)]:List AV) (16) (.agg (subL (encRU [.agg cs]) (16) (16)))))=true∧
 R (.ptr (.rw 1) (0)) [some ⟨1,(encRU [.agg cs])⟩,some ⟨1,(setPart (setPart ([.bool (false),.bool (false),.bool (false),.bool (false),.bool (false),.bool (false),.bool (false),.bool (false),.bool (false),.bool (false),.bool (false),.bool (false),.bool (false),.bool (false),.bool (false),.bool (false),.bool (false),.bool (false),.bool (false),.bool (false),.bool (false),.bool (false),.bool (false),.bool (false),.bool (false),.bool (false),.bool (false),.bool (false),.bool (false),.bool (false),.bool (false),.bool (false),.int .u32 (0),.int .u32 (0),.int .u32 (0),.int .u32 (0),.int .u32 (0),.int .u32 (0),.int .u32 (0),.int .u32 (0),.int .u32 (0),.int .u32 (0),.int .u32 (0),.int .u32 (0),.int .u32 (0),.int .u32 (0),.int .u32 (0),.int .u32 (0)]:List AV) (16) (.agg (subL (encRU [.agg cs]) (16) (16)))) (32) (.agg (subL (encRU [.agg cs]) (32) (16))))⟩]):=by kernel_rfl
theorem b33 (G:Nat→List AV) (cs:List AV) (x y i:Int) (Q:Ex→List AV→Hp→Prop) (R:AV→Hp→Prop):vT G Q R (dloop (Dc Try.prog [] [] [] 0) 200 10 1 (loopN Try.f81 0) 24 [0,3,4,5] [.ptr (.rw 0) (.lit 0),.int .i64 (.var 3 x),.int .i64 (.var 4 y),.int .i64 (.var 2 i)] [some ⟨1,.uf 1002 encRU [.agg (.var 1 cs)]⟩])=(
  (decide ((i:Int)≤15)=true→
 decide ((0:Int)≤i)=true∧
 decide ((i:Int)<16)=true∧
 isB (encRU [.agg cs]) (Int.toNat (i)+16)=true∧
 (getB (encRU [.agg cs]) (Int.toNat (i)+16)=true→
 Q .normal [.ptr (.rw 0) (0),.int .i64 (IntKind.wrap .i64 (x+y)),.int .i64 (IntKind.wrap .i64 (2*y)),.int .i64 (IntKind.wrap .i64 (i+1))] [some ⟨1,(encRU [.agg cs])⟩])∧
 (getB (encRU [.agg cs]) (Int.toNat (i)+16)=false→
 Q .normal [.ptr (.rw 0) (0),.int .i64 (x),.int .i64 (IntKind.wrap .i64 (2*y)),.int .i64 (IntKind.wrap .i64 (i+1))] [some ⟨1,(encRU [.agg cs])⟩]))∧
 (decide ((i:Int)≤15)=false→
 Q (.exit 0) [.ptr (.rw 0) (0),.int .i64 (x),.int .i64 (y),.int .i64 (i)] [some ⟨1,(encRU [.agg cs])⟩])):=by kernel_rfl
theorem b35 (G:Nat→List AV) (cs:List AV) (a w i:Int) (Q:Ex→List AV→Hp→Prop) (R:AV→Hp→Prop):vT G Q R (dloop (Dc Try.prog [] [] [] 0) 200 10 1 (loopN Try.f72 0) 28 [0,1,6,7] [.ptr (.rw 0) (.lit 0),.int .i64 (.var 3 a),.int .i64 (.var 4 w),.int .i64 (.var 2 i)] [some ⟨1,.var 1 cs⟩])=(
  (decide ((i:Int)≤15)=true→
 decide ((0:Int)≤IntKind.wrap .u64 (i))=true∧
 decide ((0:Int)≤i)=true∧
 decide ((i:Int)<16)=true∧
 leB (Int.toNat (i)+17) (List.length cs)=true∧
 Q .normal [.ptr (.rw 0) (0),.int .i64 (a),.int .i64 (w),.int .i64 (IntKind.wrap .i64 (i+1))] [some ⟨1,(setPart cs (Int.toNat (i)+16) (.bool (((kAnd .i64 (kShr .i64 (a) (IntKind.wrap .u64 (i))) (1):Int)==1))))⟩])∧
 (decide ((i:Int)≤15)=false→
 Q (.exit 0) [.ptr (.rw 0) (0),.int .i64 (a),.int .i64 (w),.int .i64 (i)] [some ⟨1,cs⟩])):=by kernel_rfl
theorem b37 (G:Nat→List AV) (cs:List AV) (i:Int) (Q:Ex→List AV→Hp→Prop) (R:AV→Hp→Prop):vT G Q R (dloop (Dc Try.prog [] [] [] 0) 200 10 1 (loopN Try.f75 0) 56 [0,2,3,4] [.ptr (.rw 0) (.lit 0),.ptr (.rw 1) (.lit 0),.bool (.lit false),.int .i64 (.var 2 i)] [some ⟨1,.var 1 cs⟩,some ⟨1,.of [.int .i64 (.lit 0),.bool (.lit false),.int .u32 (.lit 0)]⟩])=(
  (decide ((i:Int)≤15)=true→
 decide ((0:Int)≤i)=true∧
 decide ((i:Int)<16)=true∧
 isB cs (Int.toNat (i))=true∧
 (getB cs (Int.toNat (i))=true→
 decide ((0:Int)≤i)=true∧
 decide ((i:Int)<16)=true∧
 isB cs (Int.toNat (i)+16)=true∧
 (getB cs (Int.toNat (i)+16)=true→
 Q .normal [.ptr (.rw 0) (0),.ptr (.rw 1) (0),.bool (false),.int .i64 (IntKind.wrap .i64 (i+1))] [some ⟨1,cs⟩,some ⟨1,([.int .i64 (0),.bool (false),.int .u32 (0)]:List AV)⟩])∧
 (getB cs (Int.toNat (i)+16)=false→
 decide ((0:Int)≤i)=true∧
 decide ((i:Int)<16)=true∧
 leB (Int.toNat (i)+1) (List.length cs)=true∧
 decide ((0:Int)≤i)=true∧
 decide ((i:Int)<16)=true∧
 isI .u32 (setPart cs (Int.toNat (i)) (.bool (false))) (Int.toNat (i)+32)=true∧
 (((getI (setPart cs (Int.toNat (i)) (.bool (false))) (Int.toNat (i)+32):Int)==1)=true→
 Q .ret [.ptr (.rw 0) (0),.ptr (.rw 1) (0),.bool (false),.int .i64 (i)] [some ⟨1,(setPart cs (Int.toNat (i)) (.bool (false)))⟩,some ⟨1,([.int .i64 (0),.bool (false),.int .u32 (0)]:List AV)⟩])∧
 (((getI (setPart cs (Int.toNat (i)) (.bool (false))) (Int.toNat (i)+32):Int)==1)=false→
 decide ((0:Int)≤i)=true∧
 decide ((i:Int)<16)=true∧
 isI .u32 (setPart cs (Int.toNat (i)) (.bool (false))) (Int.toNat (i)+32)=true∧
 decide ((0:Int)≤i)=true∧
 decide ((i:Int)<16)=true∧
 isI .u32 (setPart cs (Int.toNat (i)) (.bool (false))) (Int.toNat (i)+32)=true∧
 Q .ret [.ptr (.rw 0) (0),.ptr (.rw 1) (0),.bool (true),.int .i64 (i)] [some ⟨1,(setPart cs (Int.toNat (i)) (.bool (false)))⟩,some ⟨1,([.int .i64 (i),.bool (((getI (setPart cs (Int.toNat (i)) (.bool (false))) (Int.toNat (i)+32):Int)==0)),.int .u32 (getI (setPart cs (Int.toNat (i)) (.bool (false))) (Int.toNat (i)+32))]:List AV)⟩])))∧
 (getB cs (Int.toNat (i))=false→
 Q .normal [.ptr (.rw 0) (0),.ptr (.rw 1) (0),.bool (false),.int .i64 (IntKind.wrap .i64 (i+1))] [some ⟨1,cs⟩,some ⟨1,([.int .i64 (0),.bool (false),.int .u32 (0)]:List AV)⟩]))∧
 (decide ((i:Int)≤15)=false→
 Q (.exit 0) [.ptr (.rw 0) (0),.ptr (.rw 1) (0),.bool (false),.int .i64 (i)] [some ⟨1,cs⟩,some ⟨1,([.int .i64 (0),.bool (false),.int .u32 (0)]:List AV)⟩])):=by kernel_rfl
theorem r_send' (G:Nat→List AV) (B:Nat):SendOk (⟨Try.prog,G,B⟩:Ctx) 71 encR:=by
 intro p n
 refine Meth.ofR (C:=(⟨Try.prog,G,B⟩:Ctx)) (rest:=[.int .i64 (.var 2 n)]) (dg0 G B) (by kernel_rfl) (by kernel_rfl) (by kernel_rfl) (fuel:=200) (n0:=10) (fn:=Try.f71) ?_
 rw [t34,encRU_enc]
 refine ⟨fun h=>?_,fun h=>⟨fun h'=>?_,fun h'=>⟨fun h3=>⟨?_,?_,?_,?_⟩,fun h3=>?_⟩⟩⟩
 ·rw [outB_lo h];exact ⟨rfl,rfl⟩
 ·rw [outB_hi h'];exact ⟨rfl,rfl⟩
 all_goals
  have g1:=of_decide_eq_false h
  have g2:=of_decide_eq_false h'
 ·exact decide_eq_true (by omega)
 ·exact decide_eq_true (by omega)
 ·exact leB_encR p _ (by omega)
 ·have g3:=of_decide_eq_true h3
  rw [outB_dec h h']
  refine ⟨rfl,?_⟩
  simp only [Bool.false_eq_true,if_false,←r_send p n (by omega) (by omega)]
  rfl
 ·have g3:=of_decide_eq_false h3
  have:n=0:=by omega
  subst this
  rw [outB_dec h h']
  refine ⟨rfl,?_⟩
  simp only [Bool.false_eq_true,if_false,r_send0]
theorem r_handle' (G:Nat→List AV) (B:Nat):HandleOk (⟨Try.prog,G,B⟩:Ctx) 74 encR:=by
 intro p n a
 refine Meth.ofR (C:=(⟨Try.prog,G,B⟩:Ctx)) (rest:=[.int .i64 (.var 2 n),.int .i64 (.var 3 a)]) (dg0 G B) (by kernel_rfl) (by kernel_rfl) (by kernel_rfl) (fuel:=200) (n0:=10) (fn:=Try.f74) ?_
 rw [t36,encRU_enc]
 refine ⟨fun h=>?_,fun h=>⟨fun h'=>?_,fun h'=>⟨fun h3=>?_,fun h3=>⟨fun h4=>?_,fun h4=>?_⟩⟩⟩⟩
 ·rw [outB_lo h];exact ⟨rfl,rfl⟩
 ·rw [outB_hi h'];exact ⟨rfl,rfl⟩
 ·rw [outB_lo h3,Bool.or_true];exact ⟨rfl,rfl⟩
 ·rw [outB_hi h4,Bool.or_true];exact ⟨rfl,rfl⟩
 ·have g1:=of_decide_eq_false h
  have g2:=of_decide_eq_false h'
  have a1:decide ((0:Int)≤n)=true:=decide_eq_true (by omega)
  have a2:decide ((n:Int)<16)=true:=decide_eq_true (by omega)
  refine ⟨a1,a2,r_isA p (by omega),a1,a2,leB_encR p _ (by omega),?_⟩
  rw [outB_dec h h',outB_dec h3 h4,r_getA p (by omega),i64_in (by have:=u_range (p.at_ n.toNat);omega)]
  refine ⟨rfl,?_⟩
  simp only [Bool.or_self,Bool.false_eq_true,if_false,←r_handle p n a (by omega) (by omega)]
  rfl
theorem held_loop (G:Nat→List AV) (B:Nat) (p:Sg):AWp (⟨Try.prog,G,B⟩:Ctx) 1 (.loop (loopN Try.f81 0)) (fl 24 [0,3,4,5] [.ptr (.rw 0) 0,.int .i64 0,.int .i64 1,.int .i64 0]) [some ⟨1,encR p⟩]
  (lv 24 [0,3,4,5] fun e vs H=>e=.exit 0∧wk [.ptr (.rw 0) 0,.int .i64 (u p.hd),.undef,.undef] vs∧H=[some ⟨1,encR p⟩]):=by
 refine aloop_lv (fun j vs H=>∃ i:Nat,i≤16∧j=16 - i∧vs=[.ptr (.rw 0) 0,.int .i64 ((p.hd.toNat % 2^i:Nat):Int),.int .i64 ((2^i:Nat):Int),.int .i64 (i:Int)]∧H=[some ⟨1,encR p⟩]) 16
  ⟨0,by omega,rfl,by simp [Nat.mod_one],rfl⟩ ?_
 rintro j vs H ⟨i,hi,rfl,rfl,rfl⟩
 have:=dloop_ok (C:=(⟨Try.prog,G,B⟩:Ctx)) (dg0 G B) (fuel:=200) (n0:=10) (m:=1) (c:=loopN Try.f81 0) (N:=24) (live:=[0,3,4,5]) (vs:=[.ptr (.rw 0) (.lit 0),.int .i64 (.var 3 ((p.hd.toNat % 2^i:Nat):Int)),.int .i64 (.var 4 ((2^i:Nat):Int)),.int .i64 (.var 2 (i:Int))]) (H:=[some ⟨1,.uf 1002 encRU [.agg (.var 1 (encP p))]⟩])
  (Q:=fun e vs' H'=>match e with
   | .normal=>∃ k',k'<16 - i∧((∃ i:Nat,i≤16∧k'=16 - i∧vs'=[.ptr (.rw 0) 0,.int .i64 ((p.hd.toNat % 2^i:Nat):Int),.int .i64 ((2^i:Nat):Int),.int .i64 (i:Int)]∧H'=[some ⟨1,encR p⟩])∨∃ vs'' H'',(∃ i:Nat,i≤16∧k'=16 - i∧vs''=[.ptr (.rw 0) 0,.int .i64 ((p.hd.toNat % 2^i:Nat):Int),.int .i64 ((2^i:Nat):Int),.int .i64 (i:Int)]∧H''=[some ⟨1,encR p⟩])∧View 1 vs'' H'' vs' H')
   | e=>e=.exit 0∧wk [.ptr (.rw 0) 0,.int .i64 (u p.hd),.undef,.undef] vs'∧H'=[some ⟨1,encR p⟩]) (by simp) (by
  rw [b33,encRU_enc]
  have hlt:=hd_lt p
  have hmod:p.hd.toNat % 2^i≤p.hd.toNat:=Nat.mod_le _ _
  have hp:i≤15→2^i≤2^15:=fun h=>Nat.pow_le_pow_right (by omega) h
  refine ⟨fun h=>?_,fun h=>?_⟩
  ·have h:=of_decide_eq_true h
   have hp:=hp (by omega)
   rw [Int.toNat_natCast,r_getH p (by omega)]
   have es:=sum_step p.hd i
   have e2:IntKind.wrap .i64 (2*((2^i:Nat):Int))=((2^(i+1):Nat):Int):=by
    rw [i64_in (by omega),Nat.pow_succ];omega
   refine ⟨decide_eq_true (by omega),decide_eq_true (by omega),r_isH p (by omega),fun hb=>?_,fun hb=>?_⟩
   ·rw [hb,if_pos rfl] at es
    refine ⟨16 - (i+1),by omega,.inl ⟨i+1,by omega,rfl,?_,rfl⟩⟩
    rw [e2,i64_in (by omega),i64_in (by omega),es]
    simp
   ·rw [hb] at es
    refine ⟨16 - (i+1),by omega,.inl ⟨i+1,by omega,rfl,?_,rfl⟩⟩
    rw [e2,i64_in (by omega),es]
    simp
  ·have h:=of_decide_eq_false h
   have:i=16:=by omega
   subst this
   refine ⟨rfl,?_,rfl⟩
   have:p.hd.toNat % 2^16=p.hd.toNat:=Nat.mod_eq_of_lt hlt
   rw [this]
   simp [wk];rfl)
 simp only [vVs,vV,vR,vN,vI,vHp,List.map_cons,List.map_nil,Option.map_some,vBlk,vL,encRU_enc] at this
 exact this
def heldL:DL:=⟨0,24,[0,3,4,5],fun vs H=>match vs,H with
 | [.ptr (.rw 0) (.lit 0),.int .i64 (.lit 0),.int .i64 (.lit 1),.int .i64 (.lit 0)],[some ⟨1,l⟩]=>match sideR.get l with
  | some (b,d)=>some (.chk b (.one (.exit 0) [.ptr (.rw 0) (.lit 0),.int .i64 (.uf 1012 heldU [.agg d]),.undef,.undef] [some ⟨1,l⟩]))
  | none=>none
 | _,_=>none⟩
theorem heldL_ok (G:Nat→List AV) (B:Nat):DLoopOk (⟨Try.prog,G,B⟩:Ctx) 1 (loopN Try.f81 0) heldL:=by
 refine .of fun vs H o ho n Q hQ=>?_
 simp only [heldL] at ho
 split at ho
 ·rename_i l
  split at ho
  ·rename_i b d hg
   simp only [Option.some.injEq] at ho
   subst ho
   obtain ⟨h1,h2⟩:=hQ
   obtain ⟨p,e1,e2⟩:=(sideR_ok G).get l b d hg h1
   refine lone ?_ h2
   simp only [heldL,vVs,vV,vR,vN,vI,vL,vHp,List.map_cons,List.map_nil,Option.map_some,vBlk]
   rw [e1,e2,heldU_enc]
   exact held_loop G B _
  ·simp at ho
 ·simp at ho
theorem dgH (G:Nat→List AV) (B:Nat):DGood (⟨Try.prog,G,B⟩:Ctx) (Dc Try.prog [] [] [heldL] 1) (loopsOf (bodyOf Try.f81)):=dgood (mix G B) (by kernel_rfl) .nil (.cast (.cons (i:=0) (by kernel_rfl) rfl (heldL_ok G B) .nil) (by kernel_rfl))
theorem t33 (G:Nat→List AV) (cs:List AV) (Q:Ex→List AV→Hp→Prop) (R:AV→Hp→Prop):vT G Q R (dcall (Dc Try.prog [] [] [heldL] 1) 200 10 Try.f81 [.ptr (.rw 0) (.lit 0)] [some ⟨1,.uf 1002 encRU [.agg (.var 1 cs)]⟩] 1)=(
  okRU [.agg (encRU [.agg cs]),.agg cs]=true∧
 R (.int .i64 (heldU [.agg cs])) [some ⟨1,(encRU [.agg cs])⟩]):=by kernel_rfl
theorem r_held' (G:Nat→List AV) (B:Nat):HeldOk (⟨Try.prog,G,B⟩:Ctx) 81 encR:=by
 intro p
 refine Meth.ofR (C:=(⟨Try.prog,G,B⟩:Ctx)) (rest:=[]) (dgH G B) (by kernel_rfl) (by kernel_rfl) (by kernel_rfl) (fuel:=200) (n0:=10) (fn:=Try.f81) ?_
 rw [t33,encRU_enc,heldU_enc]
 exact ⟨okRU_enc p,rfl,rfl⟩
def mixF (p:Sg) (a:Int) (i:Nat):Nat→Bool:=fun j=>if 2≤j∧j<i then (w32 a).getLsbD j else p.hd.getLsbD j
def encM (p:Sg) (a:Int) (i:Nat):List AV:=encF (fun i=>p.wt.getLsbD i) (mixF p a i) p.at_
theorem encM_0 (p:Sg) (a:Int):encM p a 2=encR p:=encF_congr (fun _ _=>rfl) (fun j _=>by simp only [mixF];rw [if_neg (by omega)]) (fun _ _=>rfl)
theorem encM_16 (p:Sg) (a:Int):encM p a 16=encR (mask p a):=by
 refine encF_congr (fun _ _=>rfl) (fun j hj=>?_) (fun _ _=>rfl)
 show _=(w32 a &&& 65532#32).getLsbD j
 rw [BitVec.getLsbD_and,m32 j hj]
 simp only [mixF]
 by_cases h:2≤j
 ·rw [if_pos ⟨h,hj⟩,decide_eq_true h,Bool.and_true]
 ·rw [if_neg (by omega),hd01 p (by omega),decide_eq_false h,Bool.and_false]
theorem encM_succ (p:Sg) (a:Int) (i:Nat) (h1:2≤i) (h2:i<16):(encM p a i).set (i+16) (.bool ((w32 a).getLsbD i))=encM p a (i+1):=by
 unfold encM
 rw [encF_setH _ _ _ h2]
 refine encF_congr (fun _ _=>rfl) (fun j hj=>?_) (fun _ _=>rfl)
 simp only [updB,mixF]
 by_cases he:j=i
 ·subst he;rw [if_pos rfl,if_pos (by omega)]
 ·rw [if_neg he]
  by_cases h:2≤j∧j<i
  ·rw [if_pos h,if_pos (by omega)]
  ·rw [if_neg h,if_neg (by omega)]
theorem mask_loop (G:Nat→List AV) (B:Nat) (p:Sg) (a w:Int):AWp (⟨Try.prog,G,B⟩:Ctx) 1 (.loop (loopN Try.f72 0)) (fl 28 [0,1,6,7] [.ptr (.rw 0) 0,.int .i64 a,.int .i64 w,.int .i64 2]) [some ⟨1,encR p⟩]
  (lv 28 [0,1,6,7] fun e vs H=>e=.exit 0∧wk [.ptr (.rw 0) 0,.int .i64 a,.int .i64 w,.undef] vs∧H=[some ⟨1,encR (mask p a)⟩]):=by
 refine aloop_lv (fun j vs H=>∃ i:Nat,2≤i∧i≤16∧j=16 - i∧vs=[.ptr (.rw 0) 0,.int .i64 a,.int .i64 w,.int .i64 (i:Int)]∧H=[some ⟨1,encM p a i⟩]) 14
  ⟨2,by omega,by omega,rfl,rfl,by rw [encM_0]⟩ ?_
 rintro j vs H ⟨i,hi1,hi2,rfl,rfl,rfl⟩
 refine dloop_ok (C:=(⟨Try.prog,G,B⟩:Ctx)) (dg0 G B) (fuel:=200) (n0:=10) (m:=1) (c:=loopN Try.f72 0) (vs:=[.ptr (.rw 0) (.lit 0),.int .i64 (.var 3 a),.int .i64 (.var 4 w),.int .i64 (.var 2 (i:Int))]) (H:=[some ⟨1,.var 1 (encM p a i)⟩]) (by simp) ?_
 rw [b35]
 refine ⟨fun h=>?_,fun h=>?_⟩
 ·have h:=of_decide_eq_true h
  rw [bit64 a i (by omega),Int.toNat_natCast]
  refine ⟨decide_eq_true (by rw [IntKind.wrap_u64];omega),decide_eq_true (by omega),decide_eq_true (by omega),leB_iff.2 (by unfold encM;rw [encF_length];omega),?_⟩
  refine ⟨16 - (i+1),by omega,.inl ⟨i+1,by omega,by omega,rfl,by rw [i64_in (by omega)];rfl,?_⟩⟩
  show [some (⟨1,(encM p a i).set (i+16) (.bool ((w32 a).getLsbD i))⟩:Blk)]=_
  rw [encM_succ p a i hi1 (by omega)]
 ·have h:=of_decide_eq_false h
  have:i=16:=by omega
  subst this
  exact ⟨rfl,by simp [wk],by rw [encM_16]⟩
def maskL:DL:=⟨0,28,[0,1,6,7],fun vs H=>match vs,H with
 | [.ptr (.rw 0) (.lit 0),.int .i64 a,.int .i64 w,.int .i64 (.lit 2)],[some ⟨1,l⟩]=>match sideR.get l with
  | some (b,d)=>some (.chk b (.one (.exit 0) [.ptr (.rw 0) (.lit 0),.int .i64 a,.int .i64 w,.undef] [some ⟨1,sideR.put (.uf 1011 maskU [.agg d,.int .i64 a])⟩]))
  | none=>none
 | _,_=>none⟩
theorem maskL_ok (G:Nat→List AV) (B:Nat):DLoopOk (⟨Try.prog,G,B⟩:Ctx) 1 (loopN Try.f72 0) maskL:=by
 refine .of fun vs H o ho n Q hQ=>?_
 simp only [maskL] at ho
 split at ho
 ·rename_i a w l
  split at ho
  ·rename_i b d hg
   simp only [Option.some.injEq] at ho
   subst ho
   obtain ⟨h1,h2⟩:=hQ
   obtain ⟨p,e1,e2⟩:=(sideR_ok G).get l b d hg h1
   refine lone ?_ h2
   simp only [maskL,vVs,vV,vR,vN,vI,vHp,List.map_cons,List.map_nil,Option.map_some,vBlk]
   rw [(sideR_ok G).put _ (mask p (vI G a)) (by simp only [vL,vVs,vV,e1,maskU_enc]),e2]
   exact mask_loop G B _ _ _
  ·simp at ho
 ·simp at ho
theorem dgMr (G:Nat→List AV) (B:Nat):DGood (⟨Try.prog,G,B⟩:Ctx) (Dc Try.prog [] [(81,heldS sideR)] [maskL] 1) (loopsOf (bodyOf Try.f72)):=dgood (mix G B) (by kernel_rfl) (.cons (heldS_ok (sideR_ok _) (r_held' G B)) .nil) (.cast (.cons (i:=0) (by kernel_rfl) rfl (maskL_ok G B) .nil) (by kernel_rfl))
theorem t35 (G:Nat→List AV) (cs:List AV) (n:Int) (Q:Ex→List AV→Hp→Prop) (R:AV→Hp→Prop):vT G Q R (dcall (Dc Try.prog [] [(81,heldS sideR)] [maskL] 1) 200 10 Try.f72 [.ptr (.rw 0) (.lit 0),.int .i64 (.var 2 n)] [some ⟨1,.uf 1002 encRU [.agg (.var 1 cs)]⟩] 1)=(
  okRU [.agg (encRU [.agg cs]),.agg cs]=true∧
 okRU [.agg (encRU [.agg cs]),.agg cs]=true∧
 R (.tup [.int .i64 (heldU [.agg cs]),.int .i64 (0)]) [some ⟨1,(encRU [.agg (maskU [.agg cs,.int .i64 (n)])])⟩]):=by kernel_rfl
theorem r_mask' (G:Nat→List AV) (B:Nat):MaskOk (⟨Try.prog,G,B⟩:Ctx) 72 encR:=by
 intro p n
 refine Meth.ofR (C:=(⟨Try.prog,G,B⟩:Ctx)) (rest:=[.int .i64 (.var 2 n)]) (dgMr G B) (by kernel_rfl) (by kernel_rfl) (by kernel_rfl) (fuel:=200) (n0:=10) (fn:=Try.f72) ?_
 rw [t35,encRU_enc,heldU_enc,maskU_enc,encRU_enc]
 exact ⟨okRU_enc p,okRU_enc p,rfl,rfl⟩
end Go.Am
namespace Go.Am
open Go.Proofs Crc
set_option maxRecDepth 100000
def zT:List AV:=[.int .i64 0,.bool false,.int .u32 0]
def tT (p:Sg):List AV:=[.int .i64 (tkSig p),.bool (tkEnds p),.int .u32 (tkAt p)]
theorem rt_loop (G:Nat→List AV) (B:Nat) (p:Sg):AWp (⟨Try.prog,G,B⟩:Ctx) 1 (.loop (loopN Try.f75 0)) (fl 56 [0,2,3,4] [.ptr (.rw 0) 0,.ptr (.rw 1) 0,.bool false,.int .i64 1]) [some ⟨1,encR p⟩,some ⟨1,zT⟩]
  (lv 56 [0,2,3,4] fun e vs H=>(tkN p=0∧e=.exit 0∧wk [.ptr (.rw 0) 0,.ptr (.rw 1) 0,.bool false,.undef] vs∧H=[some ⟨1,encR p⟩,some ⟨1,zT⟩])∨
   (tkN p≠0∧e=.ret∧wk [.ptr (.rw 0) 0,.ptr (.rw 1) 0,.bool (tkOk p),.undef] vs∧H=[some ⟨1,encR (tkP p)⟩,some ⟨1,tT p⟩])):=by
 let x:Wd:=p.wt &&& ~~~ p.hd
 refine aloop_lv (fun j vs H=>∃ i:Nat,1≤i∧i≤16∧j=16 - i∧lowFrom x (16 - i) i=tkN p∧vs=[.ptr (.rw 0) 0,.ptr (.rw 1) 0,.bool false,.int .i64 (i:Int)]∧H=[some ⟨1,encR p⟩,some ⟨1,zT⟩]) 15
  ⟨1,by omega,by omega,rfl,rfl,rfl,rfl⟩ ?_
 rintro j vs H ⟨i,hi1,hi2,rfl,hlow,rfl,rfl⟩
 refine dloop_ok (C:=(⟨Try.prog,G,B⟩:Ctx)) (dg0 G B) (fuel:=200) (n0:=10) (m:=1) (c:=loopN Try.f75 0) (vs:=[.ptr (.rw 0) (.lit 0),.ptr (.rw 1) (.lit 0),.bool (.lit false),.int .i64 (.var 2 (i:Int))]) (H:=[some ⟨1,.var 1 (encR p)⟩,some ⟨1,.of [.int .i64 (.lit 0),.bool (.lit false),.int .u32 (.lit 0)]⟩]) (by simp) ?_
 rw [b37]
 refine ⟨fun h=>?_,fun h=>?_⟩
 ·have h:=of_decide_eq_true h
  have a1:decide ((0:Int)≤(i:Int))=true:=decide_eq_true (by omega)
  have a2:decide ((i:Int)<16)=true:=decide_eq_true (by omega)
  have hx:x.getLsbD i=(p.wt.getLsbD i&&!p.hd.getLsbD i):=by
   show (p.wt &&& ~~~ p.hd).getLsbD i=_
   rw [BitVec.getLsbD_and,BitVec.getLsbD_not,decide_eq_true (show i<32 by omega),Bool.true_and]
  have hstep:16 - i=(15 - i)+1:=by omega
  rw [hstep,lowFrom_succ,hx] at hlow
  have hnext:(p.wt.getLsbD i&&!p.hd.getLsbD i)=false→lowFrom x (16 - (i+1)) (i+1)=tkN p:=fun hb=>by
   rw [hb,if_neg (by simp)] at hlow
   rw [show 16 - (i+1)=15 - i by omega];exact hlow
  have e1:IntKind.wrap .i64 ((i:Int)+1)=((i+1:Nat):Int):=by rw [i64_in (by omega)];rfl
  rw [Int.toNat_natCast,r_getW p (by omega),r_getH p (by omega),e1]
  refine ⟨a1,a2,r_isW p (by omega),fun hw=>⟨a1,a2,r_isH p (by omega),fun hh=>?_,fun hh=>?_⟩,fun hw=>?_⟩
  ·exact ⟨16 - (i+1),by omega,.inl ⟨i+1,by omega,by omega,rfl,hnext (by rw [hw,hh];rfl),rfl,rfl⟩⟩
  ·rw [hw,hh,if_pos (by simp)] at hlow
   have hn:tkN p=i:=hlow.symm
   have hs:setPart (encR p) i (.bool false)=encR (tkP p):=r_take p i hn (by omega) (by omega)
   rw [hs,r_getA _ (by omega),tkP_at]
   have a3:=r_isA (tkP p) (show i<16 by omega)
   have hb:Nat.beq (tkN p) 0=false:=by
    rw [hn];cases i with
    | zero=>omega
    | succ n=>rfl
   refine ⟨a1,a2,leB_encR p _ (by omega),a1,a2,a3,fun h1=>?_,fun h1=>⟨a1,a2,a3,a1,a2,a3,?_⟩⟩
   ·have h1:p.at_ i=1#32:=by
     have:=congrArg w32 (eq_of_beq h1)
     rw [w32_u] at this
     exact this
    have hok:tkOk p=false:=by simp [tkOk,hn,h1]
    refine .inr ⟨by omega,rfl,by rw [hok];simp [wk],?_⟩
    simp only [tT,tkSig,tkEnds,tkAt,hok,Bool.false_and,Bool.false_eq_true,if_false]
   ·have h1:(p.at_ i==1#32)=false:=by
     rw [beq_eq_false_iff_ne]
     intro h
     rw [h] at h1
     cases h1
    have hok:tkOk p=true:=by
     rw [hn] at hb
     simp only [tkOk,hn,h1,hb];rfl
    have he:(u (p.at_ i)==0)=(p.at_ i==0#32):=u_beq (p.at_ i) 0#32
    refine .inr ⟨by omega,rfl,by rw [hok];simp [wk],?_⟩
    simp only [tT,tkSig,tkEnds,tkAt,hok,Bool.true_and,if_true,hn,he]
  ·exact ⟨16 - (i+1),by omega,.inl ⟨i+1,by omega,by omega,rfl,hnext (by rw [hw];rfl),rfl,rfl⟩⟩
 ·have h:=of_decide_eq_false h
  have:i=16:=by omega
  subst this
  refine .inl ⟨?_,rfl,by simp [wk],rfl⟩
  rw [←hlow];rfl
def rtL:DL:=⟨0,56,[0,2,3,4],fun vs H=>match vs,H with
 | [.ptr (.rw 0) (.lit 0),.ptr (.rw 1) (.lit 0),.bool (.lit false),.int .i64 (.lit 1)],[some ⟨1,l⟩,some ⟨1,.of [.int .i64 (.lit 0),.bool (.lit false),.int .u32 (.lit 0)]⟩]=>match sideR.get l with
  | some (b,d)=>some (.chk b (.tst (.cmp .eql (.uf 1030 tkNU [.agg d]) (.lit 0))
    (.one (.exit 0) [.ptr (.rw 0) (.lit 0),.ptr (.rw 1) (.lit 0),.bool (.lit false),.undef] [some ⟨1,l⟩,some ⟨1,.of [.int .i64 (.lit 0),.bool (.lit false),.int .u32 (.lit 0)]⟩])
    (.one .ret [.ptr (.rw 0) (.lit 0),.ptr (.rw 1) (.lit 0),.bool (.uf 1019 tkOkU [.agg d]),.undef] [some ⟨1,sideR.put (.uf 1015 tkU [.agg d])⟩,some ⟨1,.of [.int .i64 (.uf 1016 tkSigU [.agg d]),.bool (.uf 1017 tkEndsU [.agg d]),.int .u32 (.uf 1018 tkAtU [.agg d])]⟩])))
  | none=>none
 | _,_=>none⟩
theorem rtL_ok (G:Nat→List AV) (B:Nat):DLoopOk (⟨Try.prog,G,B⟩:Ctx) 1 (loopN Try.f75 0) rtL:=by
 refine .of fun vs H o ho n Q hQ=>?_
 simp only [rtL] at ho
 split at ho
 ·rename_i l
  split at ho
  ·rename_i b d hg
   simp only [Option.some.injEq] at ho
   subst ho
   obtain ⟨h1,h2,h3⟩:=hQ
   obtain ⟨p,e1,e2⟩:=(sideR_ok G).get l b d hg h1
   have hd:vB G (.cmp .eql (.uf 1030 tkNU [.agg d]) (.lit 0))=((tkN p:Int)==0):=by
    simp only [vB,vI,cmpI,vVs,vV,e1,tkNU_enc]
   rw [hd] at h2 h3
   simp only [rtL,vVs,vV,vR,vN,vI,vB,vL,vHp,List.map_cons,List.map_nil,Option.map_some,vBlk]
   rw [e2]
   have key:=rt_loop G B p
   refine key.lmono ?_
   rintro e vs'' H'' (⟨g0,rfl,g2,rfl⟩ | ⟨g0,rfl,g2,rfl⟩)
   ·refine .inl ⟨_,g2,?_⟩
    have:=h2 (by rw [g0];rfl)
    simp only [lHolds,vVs,vV,vR,vN,vI,vB,vL,vHp,List.map_cons,List.map_nil,Option.map_some,vBlk,e2] at this
    exact this
   ·refine .inl ⟨_,g2,?_⟩
    have:=h3 (by rw [beq_eq_false_iff_ne];omega)
    simp only [lHolds,vVs,vV,vR,vN,vI,vB,vL,vHp,List.map_cons,List.map_nil,Option.map_some,vBlk,e1,tkOkU_enc,tkSigU_enc,tkEndsU_enc,tkAtU_enc] at this
    rw [(sideR_ok G).put _ (tkP p) (by simp only [vL,vVs,vV,e1,tkU_enc])] at this
    exact this
  ·simp at ho
 ·simp at ho
theorem dgRT (G:Nat→List AV) (B:Nat):DGood (⟨Try.prog,G,B⟩:Ctx) (Dc Try.prog [] [] [rtL] 1) (loopsOf (bodyOf Try.f75)):=dgood (mix G B) (by kernel_rfl) .nil (.cast (.cons (i:=0) (by kernel_rfl) rfl (rtL_ok G B) .nil) (by kernel_rfl))
theorem t37 (G:Nat→List AV) (cs:List AV) (Q:Ex→List AV→Hp→Prop) (R:AV→Hp→Prop):vT G Q R (dcall (Dc Try.prog [] [] [rtL] 1) 200 10 Try.f75 [.ptr (.rw 0) (.lit 0)] [some ⟨1,.uf 1002 encRU [.agg (.var 1 cs)]⟩] 1)=(
  okRU [.agg (encRU [.agg cs]),.agg cs]=true∧
 (((tkNU [.agg cs]:Int)==0)=true→
 R (.tup [.agg ([.int .i64 (0),.bool (false),.int .u32 (0)]:List AV),.bool (false)]) [some ⟨1,(encRU [.agg cs])⟩])∧
 (((tkNU [.agg cs]:Int)==0)=false→
 R (.tup [.agg ([.int .i64 (tkSigU [.agg cs]),.bool (tkEndsU [.agg cs]),.int .u32 (tkAtU [.agg cs])]:List AV),.bool (tkOkU [.agg cs])]) [some ⟨1,(encRU [.agg (tkU [.agg cs])])⟩])):=by kernel_rfl
theorem r_take' (G:Nat→List AV) (B:Nat):TakeOk (⟨Try.prog,G,B⟩:Ctx) 75 encR:=by
 intro p
 refine Meth.ofR (C:=(⟨Try.prog,G,B⟩:Ctx)) (rest:=[]) (dgRT G B) (by kernel_rfl) (by kernel_rfl) (by kernel_rfl) (fuel:=200) (n0:=10) (fn:=Try.f75) ?_
 rw [t37,encRU_enc,tkNU_enc,tkOkU_enc,tkSigU_enc,tkEndsU_enc,tkAtU_enc,tkU_enc,encRU_enc]
 refine ⟨okRU_enc p,fun h=>?_,fun h=>⟨rfl,rfl⟩⟩
 have h0:tkN p=0:=by have:=eq_of_beq h;omega
 refine ⟨by simp [takenV,tkSig,tkEnds,tkAt,tkOk,h0],by simp [tkP,h0]⟩
theorem subH (f g:Nat→Bool) (h:Nat→Wd):subL (encF f g h) 16 16=(List.range 16).map fun i=>.bool (g i):=by
 unfold subL encF
 rw [List.drop_left' (by rw [mapR_len]),List.take_left' (by rw [mapR_len])]
theorem subA (f g:Nat→Bool) (h:Nat→Wd):subL (encF f g h) 32 16=(List.range 16).map fun i=>.int .u32 (u (h i)):=by
 unfold subL encF
 rw [←List.append_assoc,List.drop_left' (by simp),List.take_of_length_le (by simp)]
theorem setH' (f g g':Nat→Bool) (h:Nat→Wd):setPart (encF f g h) 16 (.agg ((List.range 16).map fun i=>.bool (g' i)))=encF f g' h:=by
 have e1:(encF f g h).take 16=(List.range 16).map fun i=>AV.bool (f i):=by unfold encF;rw [List.take_left' (by rw [mapR_len])]
 have e2:(encF f g h).drop 32=(List.range 16).map fun i=>AV.int .u32 (u (h i)):=by unfold encF;rw [←List.append_assoc,List.drop_left' (by simp)]
 simp only [setPart,spl,mapR_len,e1]
 rw [e2];rfl
theorem setA' (f g:Nat→Bool) (h h':Nat→Wd):setPart (encF f g h) 32 (.agg ((List.range 16).map fun i=>.int .u32 (u (h' i))))=encF f g h':=by
 have e1:(encF f g h).take 32=((List.range 16).map fun i=>AV.bool (f i))++((List.range 16).map fun i=>AV.bool (g i)):=by unfold encF;rw [←List.append_assoc,List.take_left' (by simp)]
 have e2:(encF f g h).drop 48=[]:=List.drop_of_length_le (by rw [encF_length];omega)
 simp only [setPart,spl,mapR_len,e1]
 rw [e2,List.append_nil,List.append_assoc];rfl
theorem r_child' (G:Nat→List AV) (B:Nat):NewOk (⟨Try.prog,G,B⟩:Ctx) 68 encR (fun _=>.ptr (.rw 1) 0) (fun p=>encR (setW p 0#32)):=by
 intro p
 refine New.ofR (C:=(⟨Try.prog,G,B⟩:Ctx)) (dg0 G B) (by kernel_rfl) (by kernel_rfl) (by kernel_rfl) (encR_flat _ _) (by simp [bnd]) (by simp) (fuel:=200) (n0:=10) (fn:=Try.f68) ?_
 rw [t39,encRU_enc]
 have z:∀ l:List AV,l=encF (fun _=>false) (fun _=>false) (fun _=>0#32)→setPart (setPart l 16 (.agg (subL (encR p) 16 16))) 32 (.agg (subL (encR p) 32 16))=encR (setW p 0#32):=by
  rintro l rfl
  rw [encR_F,subH,setH',subA,setA',encR_F]
  refine encF_congr (fun j hj=>?_) (fun _ _=>rfl) (fun _ _=>rfl)
  show false=(0#32 &&& 65534#32).getLsbD j
  simp
 refine ⟨leB_encR p _ (by omega),leB_encR p _ (by omega),?_,?_,?_,rfl,?_⟩
 ·rw [encR_F,subH,mapR_len];rfl
 ·rw [encR_F,subA,mapR_len];rfl
 ·refine leB_iff.2 ?_
  rw [encR_F,subH]
  simp [setPart,spl]
 ·exact congrArg (fun l=>[some (⟨1,encR p⟩:Blk),some ⟨1,l⟩]) (z _ rfl)
end Go.Am
namespace Go.Am
open Go.Proofs Crc
set_option maxRecDepth 100000
def wC (ls:List Lf) (l:EL):EL:=.of (leafsD l (.lit 0) ls)
def lsP:List Lf:=.bool::List.replicate 18 (.int .u32)
theorem t22 (G:Nat→List AV) (cs ds:List AV) (Q:Ex→List AV→Hp→Prop) (R:AV→Hp→Prop):vT G Q R (dcall (Dc Try.prog [55] [] [] 0) 200 10 Try.f24 [.ptr (.rw 0) (.lit 0),.ptr (.rw 1) (.lit 0)] [some ⟨1,wC lsP (.var 1 cs)⟩,some ⟨1,wC lsP (.var 2 ds)⟩] 2)=(
  (getB cs (0)=true→
 (getB ds (0)=true→
 R (.bool ((((getB cs (0):Bool)==getB ds (0))&&(((getI cs (1):Int)==getI ds (1))&&(((getI cs (2):Int)==getI ds (2))&&(((getI cs (3):Int)==getI ds (3))&&(((getI cs (4):Int)==getI ds (4))&&(((getI cs (5):Int)==getI ds (5))&&(((getI cs (6):Int)==getI ds (6))&&(((getI cs (7):Int)==getI ds (7))&&(((getI cs (8):Int)==getI ds (8))&&(((getI cs (9):Int)==getI ds (9))&&(((getI cs (10):Int)==getI ds (10))&&(((getI cs (11):Int)==getI ds (11))&&(((getI cs (12):Int)==getI ds (12))&&(((getI cs (13):Int)==getI ds (13))&&(((getI cs (14):Int)==getI ds (14))&&(((getI cs (15):Int)==getI ds (15))&&(((getI cs (16):Int)==getI ds (16))&&(((getI cs (17):Int)==getI ds (17))&&((getI cs (18):Int)==getI ds (18)))))))))))))))))))))) [some ⟨1,([.bool (getB cs (0)),.int .u32 (getI cs (1)),.int .u32 (getI cs (2)),.int .u32 (getI cs (3)),.int .u32 (getI cs (4)),.int .u32 (getI cs (5)),.int .u32 (getI cs (6)),.int .u32 (getI cs (7)),.int .u32 (getI cs (8)),.int .u32 (getI cs (9)),.int .u32 (getI cs (10)),.int .u32 (getI cs (11)),.int .u32 (getI cs (12)),.int .u32 (getI cs (13)),.int .u32 (getI cs (14)),.int .u32 (getI cs (15)),.int .u32 (getI cs (16)),.int .u32 (getI cs (17)),.int .u32 (getI cs (18))]:List AV)⟩,some ⟨1,([.bool (getB ds (0)),.int .u32 (getI ds (1)),.int .u32 (getI ds (2)),.int .u32 (getI ds (3)),.int .u32 (getI ds (4)),.int .u32 (getI ds (5)),.int .u32 (getI ds (6)),.int .u32 (getI ds (7)),.int .u32 (getI ds (8)),.int .u32 (getI ds (9)),.int .u32 (getI ds (10)),.int .u32 (getI ds (11)),.int .u32 (getI ds (12)),.int .u32 (getI ds (13)),.int .u32 (getI ds (14)),.int .u32 (getI ds (15)),.int .u32 (getI ds (16)),.int .u32 (getI ds (17)),.int .u32 (getI ds (18))]:List AV)⟩])∧
 (getB ds (0)=false→
 R (.bool (((getB cs (0):Bool)==getB ds (0)))) [some ⟨1,([.bool (getB cs (0)),.int .u32 (getI cs (1)),.int .u32 (getI cs (2)),.int .u32 (getI cs (3)),.int .u32 (getI cs (4)),.int .u32 (getI cs (5)),.int .u32 (getI cs (6)),.int .u32 (getI cs (7)),.int .u32 (getI cs (8)),.int .u32 (getI cs (9)),.int .u32 (getI cs (10)),.int .u32 (getI cs (11)),.int .u32 (getI cs (12)),.int .u32 (getI cs (13)),.int .u32 (getI cs (14)),.int .u32 (getI cs (15)),.int .u32 (getI cs (16)),.int .u32 (getI cs (17)),.int .u32 (getI cs (18))]:List AV)⟩,some ⟨1,([.bool (getB ds (0)),.int .u32 (getI ds (1)),.int .u32 (getI ds (2)),.int .u32 (getI ds (3)),.int .u32 (getI ds (4)),.int .u32 (getI ds (5)),.int .u32 (getI ds (6)),.int .u32 (getI ds (7)),.int .u32 (getI ds (8)),.int .u32 (getI ds (9)),.int .u32 (getI ds (10)),.int .u32 (getI ds (11)),.int .u32 (getI ds (12)),.int .u32 (getI ds (13)),.int .u32 (getI ds (14)),.int .u32 (getI ds (15)),.int .u32 (getI ds (16)),.int .u32 (getI ds (17)),.int .u32 (getI ds (18))]:List AV)⟩]))∧
 (getB cs (0)=false→
 R (.bool (((getB cs (0):Bool)==getB ds (0)))) [some ⟨1,([.bool (getB cs (0)),.int .u32 (getI cs (1)),.int .u32 (getI cs (2)),.int .u32 (getI cs (3)),.int .u32 (getI cs (4)),.int .u32 (getI cs (5)),.int .u32 (getI cs (6)),.int .u32 (getI cs (7)),.int .u32 (getI cs (8)),.int .u32 (getI cs (9)),.int .u32 (getI cs (10)),.int .u32 (getI cs (11)),.int .u32 (getI cs (12)),.int .u32 (getI cs (13)),.int .u32 (getI cs (14)),.int .u32 (getI cs (15)),.int .u32 (getI cs (16)),.int .u32 (getI cs (17)),.int .u32 (getI cs (18))]:List AV)⟩,some ⟨1,([.bool (getB ds (0)),.int .u32 (getI ds (1)),.int .u32 (getI ds (2)),.int .u32 (getI ds (3)),.int .u32 (getI ds (4)),.int .u32 (getI ds (5)),.int .u32 (getI ds (6)),.int .u32 (getI ds (7)),.int .u32 (getI ds (8)),.int .u32 (getI ds (9)),.int .u32 (getI ds (10)),.int .u32 (getI ds (11)),.int .u32 (getI ds (12)),.int .u32 (getI ds (13)),.int .u32 (getI ds (14)),.int .u32 (getI ds (15)),.int .u32 (getI ds (16)),.int .u32 (getI ds (17)),.int .u32 (getI ds (18))]:List AV)⟩])):=by kernel_rfl
theorem t22s (G:Nat→List AV) (cs:List AV) (Q:Ex→List AV→Hp→Prop) (R:AV→Hp→Prop):vT G Q R (dcall (Dc Try.prog [55] [] [] 0) 200 10 Try.f24 [.ptr (.rw 0) (.lit 0),.ptr (.rw 0) (.lit 0)] [some ⟨1,wC lsP (.var 1 cs)⟩] 1)=(
  (getB cs (0)=true→
 getB cs (0)=true∧
 R (.bool ((((getB cs (0):Bool)==getB cs (0))&&(((getI cs (1):Int)==getI cs (1))&&(((getI cs (2):Int)==getI cs (2))&&(((getI cs (3):Int)==getI cs (3))&&(((getI cs (4):Int)==getI cs (4))&&(((getI cs (5):Int)==getI cs (5))&&(((getI cs (6):Int)==getI cs (6))&&(((getI cs (7):Int)==getI cs (7))&&(((getI cs (8):Int)==getI cs (8))&&(((getI cs (9):Int)==getI cs (9))&&(((getI cs (10):Int)==getI cs (10))&&(((getI cs (11):Int)==getI cs (11))&&(((getI cs (12):Int)==getI cs (12))&&(((getI cs (13):Int)==getI cs (13))&&(((getI cs (14):Int)==getI cs (14))&&(((getI cs (15):Int)==getI cs (15))&&(((getI cs (16):Int)==getI cs (16))&&(((getI cs (17):Int)==getI cs (17))&&((getI cs (18):Int)==getI cs (18)))))))))))))))))))))) [some ⟨1,([.bool (getB cs (0)),.int .u32 (getI cs (1)),.int .u32 (getI cs (2)),.int .u32 (getI cs (3)),.int .u32 (getI cs (4)),.int .u32 (getI cs (5)),.int .u32 (getI cs (6)),.int .u32 (getI cs (7)),.int .u32 (getI cs (8)),.int .u32 (getI cs (9)),.int .u32 (getI cs (10)),.int .u32 (getI cs (11)),.int .u32 (getI cs (12)),.int .u32 (getI cs (13)),.int .u32 (getI cs (14)),.int .u32 (getI cs (15)),.int .u32 (getI cs (16)),.int .u32 (getI cs (17)),.int .u32 (getI cs (18))]:List AV)⟩])∧
 (getB cs (0)=false→
 R (.bool (((getB cs (0):Bool)==getB cs (0)))) [some ⟨1,([.bool (getB cs (0)),.int .u32 (getI cs (1)),.int .u32 (getI cs (2)),.int .u32 (getI cs (3)),.int .u32 (getI cs (4)),.int .u32 (getI cs (5)),.int .u32 (getI cs (6)),.int .u32 (getI cs (7)),.int .u32 (getI cs (8)),.int .u32 (getI cs (9)),.int .u32 (getI cs (10)),.int .u32 (getI cs (11)),.int .u32 (getI cs (12)),.int .u32 (getI cs (13)),.int .u32 (getI cs (14)),.int .u32 (getI cs (15)),.int .u32 (getI cs (16)),.int .u32 (getI cs (17)),.int .u32 (getI cs (18))]:List AV)⟩])):=by kernel_rfl
theorem range16:List.range 16=[0,1,2,3,4,5,6,7,8,9,10,11,12,13,14,15]:=rfl
theorem conjP (p q:Sg):(((getB (encP p) (0):Bool)==getB (encP q) (0))&&(((getI (encP p) (1):Int)==getI (encP q) (1))&&(((getI (encP p) (2):Int)==getI (encP q) (2))&&(((getI (encP p) (3):Int)==getI (encP q) (3))&&(((getI (encP p) (4):Int)==getI (encP q) (4))&&(((getI (encP p) (5):Int)==getI (encP q) (5))&&(((getI (encP p) (6):Int)==getI (encP q) (6))&&(((getI (encP p) (7):Int)==getI (encP q) (7))&&(((getI (encP p) (8):Int)==getI (encP q) (8))&&(((getI (encP p) (9):Int)==getI (encP q) (9))&&(((getI (encP p) (10):Int)==getI (encP q) (10))&&(((getI (encP p) (11):Int)==getI (encP q) (11))&&(((getI (encP p) (12):Int)==getI (encP q) (12))&&(((getI (encP p) (13):Int)==getI (encP q) (13))&&(((getI (encP p) (14):Int)==getI (encP q) (14))&&(((getI (encP p) (15):Int)==getI (encP q) (15))&&(((getI (encP p) (16):Int)==getI (encP q) (16))&&(((getI (encP p) (17):Int)==getI (encP q) (17))&&((getI (encP p) (18):Int)==getI (encP q) (18))))))))))))))))))))=sameB p q:=by
 show (((true:Bool)==true)&&(((u p.wt:Int)==u q.wt)&&(((u p.hd:Int)==u q.hd)&&(((u (p.at_ 0):Int)==u (q.at_ 0))&&(((u (p.at_ 1):Int)==u (q.at_ 1))&&(((u (p.at_ 2):Int)==u (q.at_ 2))&&(((u (p.at_ 3):Int)==u (q.at_ 3))&&(((u (p.at_ 4):Int)==u (q.at_ 4))&&(((u (p.at_ 5):Int)==u (q.at_ 5))&&(((u (p.at_ 6):Int)==u (q.at_ 6))&&(((u (p.at_ 7):Int)==u (q.at_ 7))&&(((u (p.at_ 8):Int)==u (q.at_ 8))&&(((u (p.at_ 9):Int)==u (q.at_ 9))&&(((u (p.at_ 10):Int)==u (q.at_ 10))&&(((u (p.at_ 11):Int)==u (q.at_ 11))&&(((u (p.at_ 12):Int)==u (q.at_ 12))&&(((u (p.at_ 13):Int)==u (q.at_ 13))&&(((u (p.at_ 14):Int)==u (q.at_ 14))&&((u (p.at_ 15):Int)==u (q.at_ 15))))))))))))))))))))=sameB p q
 simp only [u_beq,sameB,range16,List.all_cons,List.all_nil,Bool.and_true,beq_self_eq_true,Bool.true_and]
theorem conjS (p:Sg):(((getB (encP p) (0):Bool)==getB (encP p) (0))&&(((getI (encP p) (1):Int)==getI (encP p) (1))&&(((getI (encP p) (2):Int)==getI (encP p) (2))&&(((getI (encP p) (3):Int)==getI (encP p) (3))&&(((getI (encP p) (4):Int)==getI (encP p) (4))&&(((getI (encP p) (5):Int)==getI (encP p) (5))&&(((getI (encP p) (6):Int)==getI (encP p) (6))&&(((getI (encP p) (7):Int)==getI (encP p) (7))&&(((getI (encP p) (8):Int)==getI (encP p) (8))&&(((getI (encP p) (9):Int)==getI (encP p) (9))&&(((getI (encP p) (10):Int)==getI (encP p) (10))&&(((getI (encP p) (11):Int)==getI (encP p) (11))&&(((getI (encP p) (12):Int)==getI (encP p) (12))&&(((getI (encP p) (13):Int)==getI (encP p) (13))&&(((getI (encP p) (14):Int)==getI (encP p) (14))&&(((getI (encP p) (15):Int)==getI (encP p) (15))&&(((getI (encP p) (16):Int)==getI (encP p) (16))&&(((getI (encP p) (17):Int)==getI (encP p) (17))&&((getI (encP p) (18):Int)==getI (encP p) (18))))))))))))))))))))=true:=by simp
theorem wC_P (G:Nat→List AV) (p:Sg) (j:Nat):vL G (wC lsP (.var j (encP p)))=encP p:=rfl
theorem p_same (G:Nat→List AV) (B:Nat) (p q:Sg):ACalls (⟨Try.prog,G,B⟩:Ctx) 24 [.ptr (.rw 0) 0,.ptr (.rw 1) 0] [some ⟨1,encP p⟩,some ⟨1,encP q⟩] fun v H'=>v=.bool (sameB p q)∧H'.take 2=[some ⟨1,encP p⟩,some ⟨1,encP q⟩]:=by
 have key:=dcall_ok (C:=(⟨Try.prog,G,B⟩:Ctx)) (f:=24) (R:=fun v' H'=>v'=.bool (sameB p q)∧H'=[some ⟨1,encP p⟩,some ⟨1,encP q⟩]) (dgood (inl:=[55]) (sums:=[]) (ls:=[]) (M:=0) (cs:=[]) (mix G B) (by kernel_rfl) .nil .nil) (by kernel_rfl) (by kernel_rfl) (by kernel_rfl) (fuel:=200) (n0:=10) (keep:=2) (args:=[.ptr (.rw 0) (.lit 0),.ptr (.rw 1) (.lit 0)]) (H:=[some ⟨1,wC lsP (.var 1 (encP p))⟩,some ⟨1,wC lsP (.var 2 (encP q))⟩]) (by
  rw [t22,conjP]
  exact ⟨fun _=>⟨fun _=>⟨rfl,rfl⟩,fun h=>(by cases h)⟩,fun h=>(by cases h)⟩)
 simp only [vVs,vV,vR,vN,vHp,List.map_cons,List.map_nil,Option.map_some,vBlk,wC_P] at key
 exact key
theorem p_same1 (G:Nat→List AV) (B:Nat) (p:Sg):ACalls (⟨Try.prog,G,B⟩:Ctx) 24 [.ptr (.rw 0) 0,.ptr (.rw 0) 0] [some ⟨1,encP p⟩] fun v H'=>v=.bool true∧H'.take 1=[some ⟨1,encP p⟩]:=by
 have key:=dcall_ok (C:=(⟨Try.prog,G,B⟩:Ctx)) (f:=24) (R:=fun v' H'=>v'=.bool true∧H'=[some ⟨1,encP p⟩]) (dgood (inl:=[55]) (sums:=[]) (ls:=[]) (M:=0) (cs:=[]) (mix G B) (by kernel_rfl) .nil .nil) (by kernel_rfl) (by kernel_rfl) (by kernel_rfl) (fuel:=200) (n0:=10) (keep:=1) (args:=[.ptr (.rw 0) (.lit 0),.ptr (.rw 0) (.lit 0)]) (H:=[some ⟨1,wC lsP (.var 1 (encP p))⟩]) (by
  rw [t22s,conjS]
  exact ⟨fun _=>⟨rfl,rfl,rfl⟩,fun h=>(by cases h)⟩)
 simp only [vVs,vV,vR,vN,vHp,List.map_cons,List.map_nil,Option.map_some,vBlk,wC_P] at key
 exact key
def sameS (s:Side):DSum:=fun xs H=>match xs with
 | [.ptr (.rw i) (.lit 0),.ptr (.rw j) (.lit 0)]=>match H[i]?,H[j]? with
  | some (some ⟨1,cs⟩),some (some ⟨1,ds⟩)=>match s.get cs,s.get ds with
   | some (b,l),some (c,m)=>match Nat.beq i j with
    | true=>some (.chk b (.one (.bool (.lit true)) []))
    | false=>some (.chk b (.chk c (.one (.bool (.uf 1060 sameU [.agg l,.agg m])) [])))
   | _,_=>none
  | _,_=>none
 | _=>none
theorem sameU_enc (p q:Sg):sameU [.agg (encP p),.agg (encP q)]=sameB p q:=by simp only [sameU,decP_enc]
theorem sameS_ok {C:Ctx} {s:Side} {enc:Sg→List AV} (hs:SideOk C.G s enc) {f:FuncId} (h2:∀ p q,ACalls C f [.ptr (.rw 0) 0,.ptr (.rw 1) 0] [some ⟨1,enc p⟩,some ⟨1,enc q⟩] fun v H'=>v=.bool (sameB p q)∧H'.take 2=[some ⟨1,enc p⟩,some ⟨1,enc q⟩])
  (h1:∀ p,ACalls C f [.ptr (.rw 0) 0,.ptr (.rw 0) 0] [some ⟨1,enc p⟩] fun v H'=>v=.bool true∧H'.take 1=[some ⟨1,enc p⟩]):DSumOk C f (sameS s):=by
 intro xs H o ho
 simp only [sameS] at ho
 split at ho
 ·rename_i i j
  split at ho
  ·rename_i cs ds hi hj
   split at ho
   ·rename_i b l c m hl hm
    split at ho
    ·rename_i hij
     have hij:=Nat.eq_of_beq_eq_true hij
     subst hij
     simp at ho;subst ho
     intro hb
     obtain ⟨p,e1,e2⟩:=hs.get _ _ _ hl hb
     refine DOut.get1g (args0:=[.ptr (.rw 0) 0,.ptr (.rw 0) 0]) hi ?_ (by rw [e2];exact hs.flat _ _) (by simp [bnds,bnd]) (by simp [vVs,vV,vR,vN,rens,ren]) (by simp [vV,bnd]) (by simp [vV])
     simp only [vBlk,e2,vV,vB]
     exact h1 p
    ·rename_i hij
     have hij:i≠j:=fun h=>by rw [h,Nat.beq_refl] at hij;simp at hij
     simp at ho;subst ho
     intro hb hc
     obtain ⟨p,e1,e2⟩:=hs.get _ _ _ hl hb
     obtain ⟨q,e3,e4⟩:=hs.get _ _ _ hm hc
     refine DOut.get2 (args0:=[.ptr (.rw 0) 0,.ptr (.rw 1) 0]) hij hi hj ?_ (by rw [e2];exact hs.flat _ _) (by rw [e4];exact hs.flat _ _) (by simp [bnds,bnd]) (by simp [vVs,vV,vR,vN,rens,ren]) (by simp [vV,bnd]) (by simp [vV])
     simp only [vBlk,e2,e4,vV,vB,vVs,e1,e3,sameU_enc]
     exact h2 p q
   ·simp at ho
  ·simp at ho
 ·simp at ho
end Go.Am
