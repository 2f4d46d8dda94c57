/-
  The document's sets: Take and Child. Two sets are the same: the program's answer, and the document's.
-/
import Derived.Test.YtkabjomhnddnoaaPart18
import Derived.Test.YtkabjomhnddnoaaPart11
import Derived.Test.YtkabjomhnddnoaaBase5
namespace Go.Am
open Go.Proofs Crc
set_option maxRecDepth 100000
def zT:List AV:=[.int .i64 0,.bool false,.int .u32 0]
def tT (p:Sg):List AV:=[.int .i64 (T8 p),.bool (Bo p),.int .u32 (Kh p)]
theorem aN6 (G:Nat→List AV) (B:Nat) (p:Sg):AWp (⟨Try.prog,G,B⟩:A3) 1 (.loop (loopN Try.f75 0)) (fl 56 [0,2,3,4] [.ptr (.rw 0) 0,.ptr (.rw 1) 0,.bool false,.int .i64 1]) [some ⟨1,encR p⟩,some ⟨1,zT⟩]
  (lv 56 [0,2,3,4] fun e vs H=>(tkN p=0∧e=.exit 0∧wk [.ptr (.rw 0) 0,.ptr (.rw 1) 0,.bool false,.undef] vs∧H=[some ⟨1,encR p⟩,some ⟨1,zT⟩])∨
   (tkN p≠0∧e=.ret∧wk [.ptr (.rw 0) 0,.ptr (.rw 1) 0,.bool (Co p),.undef] vs∧H=[some ⟨1,encR (Io p)⟩,some ⟨1,tT p⟩])):=by
 let x:Wd:=p.wt &&& ~~~ p.hd
 refine Ci (fun j vs H=>∃ i:Nat,1≤i∧i≤16∧j=16 - i∧X5 x (16 - i) i=tkN p∧vs=[.ptr (.rw 0) 0,.ptr (.rw 1) 0,.bool false,.int .i64 (i:Int)]∧H=[some ⟨1,encR p⟩,some ⟨1,zT⟩]) 15
  ⟨1,by omega,by omega,rfl,rfl,rfl,rfl⟩ ?_
 rintro j vs H ⟨i,hi1,hi2,rfl,hlow,rfl,rfl⟩;refine E2 (C:=(⟨Try.prog,G,B⟩:A3)) (aN G B) (fuel:=200) (n0:=10) (m:=1) (c:=loopN Try.f75 0) (vs:=[.ptr (.rw 0) (.lit 0),.ptr (.rw 1) (.lit 0),.bool (.lit false),.int .i64 (.var 2 (i:Int))]) (H:=[some ⟨1,.var 1 (encR p)⟩,some ⟨1,.of [.int .i64 (.lit 0),.bool (.lit false),.int .u32 (.lit 0)]⟩]) (by simp) ?_;rw [b37];refine ⟨fun h=>?_,fun h=>?_⟩
 ·have h:=of_decide_eq_true h;have a1:decide ((0:Int)≤(i:Int))=true:=decide_eq_true (by omega);have a2:decide ((i:Int)<16)=true:=decide_eq_true (by omega)
  have hx:x.getLsbD i=(p.wt.getLsbD i&&!p.hd.getLsbD i):=by
   show (p.wt &&& ~~~ p.hd).getLsbD i=_;rw [BitVec.getLsbD_and,BitVec.getLsbD_not,decide_eq_true (show i<32 by omega),Bool.true_and]
  have hstep:16 - i=(15 - i)+1:=by omega
  rw [hstep,Pp,hx] at hlow
  have hnext:(p.wt.getLsbD i&&!p.hd.getLsbD i)=false→X5 x (16 - (i+1)) (i+1)=tkN p:=fun hb=>by
   rw [hb,if_neg (by simp)] at hlow;rw [show 16 - (i+1)=15 - i by omega];exact hlow
  have e1:IntKind.wrap .i64 ((i:Int)+1)=((i+1:Nat):Int):=by rw [D9 (by omega)];rfl
  rw [Int.toNat_natCast,wQ p (by omega),wR p (by omega),e1];refine ⟨a1,a2,r_isW p (by omega),fun hw=>⟨a1,a2,r_isH p (by omega),fun hh=>?_,fun hh=>?_⟩,fun hw=>?_⟩
  ·exact ⟨16 - (i+1),by omega,.inl ⟨i+1,by omega,by omega,rfl,hnext (by rw [hw,hh];rfl),rfl,rfl⟩⟩
  ·rw [hw,hh,if_pos (by simp)] at hlow;have hn:tkN p=i:=hlow.symm;have hs:setPart (encR p) i (.bool false)=encR (Io p):=r_take p i hn (by omega) (by omega);rw [hs,mI _ (by omega),vP];have a3:=tC (Io p) (show i<16 by omega)
   have hb:Nat.beq (tkN p) 0=false:=by
    rw [hn];cases i with
    | zero=>omega
    | succ n=>rfl
   refine ⟨a1,a2,Pr p _ (by omega),a1,a2,a3,fun h1=>?_,fun h1=>⟨a1,a2,a3,a1,a2,a3,?_⟩⟩
   ·have h1:p.at_ i=1#32:=by
     have:=congrArg V0 (eq_of_beq h1)
     rw [Bl] at this;exact this
    have hok:Co p=false:=by simp [Co,hn,h1]
    refine .inr ⟨by omega,rfl,by rw [hok];simp [wk],?_⟩;simp only [tT,T8,Bo,Kh,hok,Bool.false_and,Bool.false_eq_true,if_false]
   ·have h1:(p.at_ i==1#32)=false:=by
     rw [beq_eq_false_iff_ne];intro h;rw [h] at h1;cases h1
    have hok:Co p=true:=by
     rw [hn] at hb;simp only [Co,hn,h1,hb];rfl
    have he:(u (p.at_ i)==0)=(p.at_ i==0#32):=sH (p.at_ i) 0#32;refine .inr ⟨by omega,rfl,by rw [hok];simp [wk],?_⟩;simp only [tT,T8,Bo,Kh,hok,Bool.true_and,if_true,hn,he]
  ·exact ⟨16 - (i+1),by omega,.inl ⟨i+1,by omega,by omega,rfl,hnext (by rw [hw];rfl),rfl,rfl⟩⟩
 ·have h:=of_decide_eq_false h
  have:i=16:=by omega
  subst this;refine .inl ⟨?_,rfl,by simp [wk],rfl⟩;rw [←hlow];rfl
def rtL:DL:=⟨0,56,[0,2,3,4],fun vs H=>match vs,H with
 | [.ptr (.rw 0) (.lit 0),.ptr (.rw 1) (.lit 0),.bool (.lit false),.int .i64 (.lit 1)],[some ⟨1,l⟩,some ⟨1,.of [.int .i64 (.lit 0),.bool (.lit false),.int .u32 (.lit 0)]⟩]=>match Eh.get l with
  | some (b,d)=>some (.chk b (.tst (.cmp .eql (.uf 1030 Q6 [.agg d]) (.lit 0))
    (.one (.exit 0) [.ptr (.rw 0) (.lit 0),.ptr (.rw 1) (.lit 0),.bool (.lit false),.undef] [some ⟨1,l⟩,some ⟨1,.of [.int .i64 (.lit 0),.bool (.lit false),.int .u32 (.lit 0)]⟩])
    (.one .ret [.ptr (.rw 0) (.lit 0),.ptr (.rw 1) (.lit 0),.bool (.uf 1019 Db [.agg d]),.undef] [some ⟨1,Eh.put (.uf 1015 M1 [.agg d])⟩,some ⟨1,.of [.int .i64 (.uf 1016 G3 [.agg d]),.bool (.uf 1017 J3 [.agg d]),.int .u32 (.uf 1018 T9 [.agg d])]⟩])))
  | none=>none
 | _,_=>none⟩
theorem rtL_ok (G:Nat→List AV) (B:Nat):O9 (⟨Try.prog,G,B⟩:A3) 1 (loopN Try.f75 0) rtL:=by
 refine .of fun vs H o ho n Q hQ=>?_;simp only [rtL] at ho;split at ho
 ·rename_i l;split at ho
  ·rename_i b d hg;simp only [Option.some.injEq] at ho;subst ho;obtain ⟨h1,h2,h3⟩:=hQ;obtain ⟨p,e1,e2⟩:=(By G).get l b d hg h1
   have hd:vB G (.cmp .eql (.uf 1030 Q6 [.agg d]) (.lit 0))=((tkN p:Int)==0):=by
    simp only [vB,vI,Ni,vVs,vV,e1,Tp]
   rw [hd] at h2 h3;simp only [rtL,vVs,vV,vR,vN,vI,vB,vL,vHp,List.map_cons,List.map_nil,Option.map_some,C9];rw [e2];have key:=aN6 G B p;refine key.lmono ?_;rintro e vs'' H'' (⟨g0,rfl,g2,rfl⟩ | ⟨g0,rfl,g2,rfl⟩)
   ·refine .inl ⟨_,g2,?_⟩
    have:=h2 (by rw [g0];rfl)
    simp only [K6,vVs,vV,vR,vN,vI,vB,vL,vHp,List.map_cons,List.map_nil,Option.map_some,C9,e2] at this;exact this
   ·refine .inl ⟨_,g2,?_⟩
    have:=h3 (by rw [beq_eq_false_iff_ne];omega)
    simp only [K6,vVs,vV,vR,vN,vI,vB,vL,vHp,List.map_cons,List.map_nil,Option.map_some,C9,e1,Mh,Jd,Hj,Mi] at this;rw [(By G).put _ (Io p) (by simp only [vL,vVs,vV,e1,Se])] at this;exact this
  ·simp at ho
 ·simp at ho
theorem dgRT (G:Nat→List AV) (B:Nat):I9 (⟨Try.prog,G,B⟩:A3) (Dc Try.prog [] [] [rtL] 1) (loopsOf (bodyOf Try.f75)):=dgood (mix G B) (by kernel_rfl) .nil (.cast (.cons (i:=0) (by kernel_rfl) rfl (rtL_ok G B) .nil) (by kernel_rfl))
theorem t37 (G:Nat→List AV) (cs:List AV) (Q:Ex→List AV→Hp→Prop) (R:AV→Hp→Prop):vT G Q R (D0 (Dc Try.prog [] [] [rtL] 1) 200 10 Try.f75 [.ptr (.rw 0) (.lit 0)] [some ⟨1,.uf 1002 B1 [.agg (.var 1 cs)]⟩] 1)=(
  okRU [.agg (B1 [.agg cs]),.agg cs]=true∧(((Q6 [.agg cs]:Int)==0)=true→R (.tup [.agg ([.int .i64 (0),.bool (false),.int .u32 (0)]:List AV),.bool (false)]) [some ⟨1,(B1 [.agg cs])⟩])∧(((Q6 [.agg cs]:Int)==0)=false→R (.tup [.agg ([.int .i64 (G3 [.agg cs]),.bool (J3 [.agg cs]),.int .u32 (T9 [.agg cs])]:List AV),.bool (Db [.agg cs])]) [some ⟨1,(B1 [.agg (M1 [.agg cs])])⟩])):=by kernel_rfl
theorem aO4 (G:Nat→List AV) (B:Nat):pD (⟨Try.prog,G,B⟩:A3) 75 encR:=by
 intro p;refine Z4.ofR (C:=(⟨Try.prog,G,B⟩:A3)) (rest:=[]) (dgRT G B) (by kernel_rfl) (by kernel_rfl) (by kernel_rfl) (fuel:=200) (n0:=10) (fn:=Try.f75) ?_;rw [t37,E3,Tp,Mh,Jd,Hj,Mi,Se,E3];refine ⟨Fo p,fun h=>?_,fun h=>⟨rfl,rfl⟩⟩;have h0:tkN p=0:=by have:=eq_of_beq h;omega
 refine ⟨by simp [Vy,T8,Bo,Kh,Co,h0],by simp [Io,h0]⟩
theorem zU (f g:Nat→Bool) (h:Nat→Wd):subL (R4 f g h) 16 16=(List.range 16).map fun i=>.bool (g i):=by
 unfold subL R4;rw [List.drop_left' (by rw [N9]),List.take_left' (by rw [N9])]
theorem subA (f g:Nat→Bool) (h:Nat→Wd):subL (R4 f g h) 32 16=(List.range 16).map fun i=>.int .u32 (u (h i)):=by
 unfold subL R4;rw [←List.append_assoc,List.drop_left' (by simp),List.take_of_length_le (by simp)]
theorem setH' (f g g':Nat→Bool) (h:Nat→Wd):setPart (R4 f g h) 16 (.agg ((List.range 16).map fun i=>.bool (g' i)))=R4 f g' h:=by
 have e1:(R4 f g h).take 16=(List.range 16).map fun i=>AV.bool (f i):=by unfold R4;rw [List.take_left' (by rw [N9])]
 have e2:(R4 f g h).drop 32=(List.range 16).map fun i=>AV.int .u32 (u (h i)):=by unfold R4;rw [←List.append_assoc,List.drop_left' (by simp)]
 simp only [setPart,Hk,N9,e1];rw [e2];rfl
theorem setA' (f g:Nat→Bool) (h h':Nat→Wd):setPart (R4 f g h) 32 (.agg ((List.range 16).map fun i=>.int .u32 (u (h' i))))=R4 f g h':=by
 have e1:(R4 f g h).take 32=((List.range 16).map fun i=>AV.bool (f i))++((List.range 16).map fun i=>AV.bool (g i)):=by unfold R4;rw [←List.append_assoc,List.take_left' (by simp)]
 have e2:(R4 f g h).drop 48=[]:=List.drop_of_length_le (by rw [Rr];omega);simp only [setPart,Hk,N9,e1];rw [e2,List.append_nil,List.append_assoc];rfl
theorem mJ (G:Nat→List AV) (B:Nat):Mb (⟨Try.prog,G,B⟩:A3) 68 encR (fun _=>.ptr (.rw 1) 0) (fun p=>encR (Kn p 0#32)):=by
 intro p;refine New.ofR (C:=(⟨Try.prog,G,B⟩:A3)) (aN G B) (by kernel_rfl) (by kernel_rfl) (by kernel_rfl) (U6 _ _) (by simp [bnd]) (by simp) (fuel:=200) (n0:=10) (fn:=Try.f68) ?_;rw [t39,E3]
 have z:∀ l:List AV,l=R4 (fun _=>false) (fun _=>false) (fun _=>0#32)→setPart (setPart l 16 (.agg (subL (encR p) 16 16))) 32 (.agg (subL (encR p) 32 16))=encR (Kn p 0#32):=by
  rintro l rfl;rw [As,zU,setH',subA,setA',As];refine Bv (fun j hj=>?_) (fun _ _=>rfl) (fun _ _=>rfl);show false=(0#32 &&& 65534#32).getLsbD j;simp
 refine ⟨Pr p _ (by omega),Pr p _ (by omega),?_,?_,?_,rfl,?_⟩
 ·rw [As,zU,N9];rfl
 ·rw [As,subA,N9];rfl
 ·refine A6.2 ?_;rw [As,zU];simp [setPart,Hk]
 ·exact congrArg (fun l=>[some (⟨1,encR p⟩:Blk),some ⟨1,l⟩]) (z _ rfl)
end Go.Am
namespace Go.Am
open Go.Proofs Crc
set_option maxRecDepth 100000
def wC (ls:List Lf) (l:EL):EL:=.of (Pq l (.lit 0) ls)
def nG:List Lf:=.bool::List.replicate 18 (.int .u32)
theorem t22 (G:Nat→List AV) (cs ds:List AV) (Q:Ex→List AV→Hp→Prop) (R:AV→Hp→Prop):vT G Q R (D0 (Dc Try.prog [55] [] [] 0) 200 10 Try.f24 [.ptr (.rw 0) (.lit 0),.ptr (.rw 1) (.lit 0)] [some ⟨1,wC nG (.var 1 cs)⟩,some ⟨1,wC nG (.var 2 ds)⟩] 2)=(
  (A5 cs (0)=true→(A5 ds (0)=true→R (.bool ((((A5 cs (0):Bool)==A5 ds (0))&&(((A0 cs (1):Int)==A0 ds (1))&&(((A0 cs (2):Int)==A0 ds (2))&&(((A0 cs (3):Int)==A0 ds (3))&&(((A0 cs (4):Int)==A0 ds (4))&&(((A0 cs (5):Int)==A0 ds (5))&&(((A0 cs (6):Int)==A0 ds (6))&&(((A0 cs (7):Int)==A0 ds (7))&&(((A0 cs (8):Int)==A0 ds (8))&&(((A0 cs (9):Int)==A0 ds (9))&&(((A0 cs (10):Int)==A0 ds (10))&&(((A0 cs (11):Int)==A0 ds (11))&&(((A0 cs (12):Int)==A0 ds (12))&&(((A0 cs (13):Int)==A0 ds (13))&&(((A0 cs (14):Int)==A0 ds (14))&&(((A0 cs (15):Int)==A0 ds (15))&&(((A0 cs (16):Int)==A0 ds (16))&&(((A0 cs (17):Int)==A0 ds (17))&&((A0 cs (18):Int)==A0 ds (18)))))))))))))))))))))) [some ⟨1,([.bool (A5 cs (0)),.int .u32 (A0 cs (1)),.int .u32 (A0 cs (2)),.int .u32 (A0 cs (3)),.int .u32 (A0 cs (4)),.int .u32 (A0 cs (5)),.int .u32 (A0 cs (6)),.int .u32 (A0 cs (7)),.int .u32 (A0 cs (8)),.int .u32 (A0 cs (9)),.int .u32 (A0 cs (10)),.int .u32 (A0 cs (11)),.int .u32 (A0 cs (12)),.int .u32 (A0 cs (13)),.int .u32 (A0 cs (14)),.int .u32 (A0 cs (15)),.int .u32 (A0 cs (16)),.int .u32 (A0 cs (17)),.int .u32 (A0 cs (18))]:List AV)⟩,some ⟨1,([.bool (A5 ds (0)),.int .u32 (A0 ds (1)),.int .u32 (A0 ds (2)),.int .u32 (A0 ds (3)),.int .u32 (A0 ds (4)),.int .u32 (A0 ds (5)),.int .u32 (A0 ds (6)),.int .u32 (A0 ds (7)),.int .u32 (A0 ds (8)),.int .u32 (A0 ds (9)),.int .u32 (A0 ds (10)),.int .u32 (A0 ds (11)),.int .u32 (A0 ds (12)),.int .u32 (A0 ds (13)),.int .u32 (A0 ds (14)),.int .u32 (A0 ds (15)),.int .u32 (A0 ds (16)),.int .u32 (A0 ds (17)),.int .u32 (A0 ds (18))]:List AV)⟩])∧(A5 ds (0)=false→
 R (.bool (((A5 cs (0):Bool)==A5 ds (0)))) [some ⟨1,([.bool (A5 cs (0)),.int .u32 (A0 cs (1)),.int .u32 (A0 cs (2)),.int .u32 (A0 cs (3)),.int .u32 (A0 cs (4)),.int .u32 (A0 cs (5)),.int .u32 (A0 cs (6)),.int .u32 (A0 cs (7)),.int .u32 (A0 cs (8)),.int .u32 (A0 cs (9)),.int .u32 (A0 cs (10)),.int .u32 (A0 cs (11)),.int .u32 (A0 cs (12)),.int .u32 (A0 cs (13)),.int .u32 (A0 cs (14)),.int .u32 (A0 cs (15)),.int .u32 (A0 cs (16)),.int .u32 (A0 cs (17)),.int .u32 (A0 cs (18))]:List AV)⟩,some ⟨1,([.bool (A5 ds (0)),.int .u32 (A0 ds (1)),.int .u32 (A0 ds (2)),.int .u32 (A0 ds (3)),.int .u32 (A0 ds (4)),.int .u32 (A0 ds (5)),.int .u32 (A0 ds (6)),.int .u32 (A0 ds (7)),.int .u32 (A0 ds (8)),.int .u32 (A0 ds (9)),.int .u32 (A0 ds (10)),.int .u32 (A0 ds (11)),.int .u32 (A0 ds (12)),.int .u32 (A0 ds (13)),.int .u32 (A0 ds (14)),.int .u32 (A0 ds (15)),.int .u32 (A0 ds (16)),.int .u32 (A0 ds (17)),.int .u32 (A0 ds (18))]:List AV)⟩]))∧(A5 cs (0)=false→
 R (.bool (((A5 cs (0):Bool)==A5 ds (0)))) [some ⟨1,([.bool (A5 cs (0)),.int .u32 (A0 cs (1)),.int .u32 (A0 cs (2)),.int .u32 (A0 cs (3)),.int .u32 (A0 cs (4)),.int .u32 (A0 cs (5)),.int .u32 (A0 cs (6)),.int .u32 (A0 cs (7)),.int .u32 (A0 cs (8)),.int .u32 (A0 cs (9)),.int .u32 (A0 cs (10)),.int .u32 (A0 cs (11)),.int .u32 (A0 cs (12)),.int .u32 (A0 cs (13)),.int .u32 (A0 cs (14)),.int .u32 (A0 cs (15)),.int .u32 (A0 cs (16)),.int .u32 (A0 cs (17)),.int .u32 (A0 cs (18))]:List AV)⟩,some ⟨1,([.bool (A5 ds (0)),.int .u32 (A0 ds (1)),.int .u32 (A0 ds (2)),.int .u32 (A0 ds (3)),.int .u32 (A0 ds (4)),.int .u32 (A0 ds (5)),.int .u32 (A0 ds (6)),.int .u32 (A0 ds (7)),.int .u32 (A0 ds (8)),.int .u32 (A0 ds (9)),.int .u32 (A0 ds (10)),.int .u32 (A0 ds (11)),.int .u32 (A0 ds (12)),.int .u32 (A0 ds (13)),.int .u32 (A0 ds (14)),.int .u32 (A0 ds (15)),.int .u32 (A0 ds (16)),.int .u32 (A0 ds (17)),.int .u32 (A0 ds (18))]:List AV)⟩])):=by kernel_rfl
theorem t22s (G:Nat→List AV) (cs:List AV) (Q:Ex→List AV→Hp→Prop) (R:AV→Hp→Prop):vT G Q R (D0 (Dc Try.prog [55] [] [] 0) 200 10 Try.f24 [.ptr (.rw 0) (.lit 0),.ptr (.rw 0) (.lit 0)] [some ⟨1,wC nG (.var 1 cs)⟩] 1)=(
  (A5 cs (0)=true→A5 cs (0)=true∧R (.bool ((((A5 cs (0):Bool)==A5 cs (0))&&(((A0 cs (1):Int)==A0 cs (1))&&(((A0 cs (2):Int)==A0 cs (2))&&(((A0 cs (3):Int)==A0 cs (3))&&(((A0 cs (4):Int)==A0 cs (4))&&(((A0 cs (5):Int)==A0 cs (5))&&(((A0 cs (6):Int)==A0 cs (6))&&(((A0 cs (7):Int)==A0 cs (7))&&(((A0 cs (8):Int)==A0 cs (8))&&(((A0 cs (9):Int)==A0 cs (9))&&(((A0 cs (10):Int)==A0 cs (10))&&(((A0 cs (11):Int)==A0 cs (11))&&(((A0 cs (12):Int)==A0 cs (12))&&(((A0 cs (13):Int)==A0 cs (13))&&(((A0 cs (14):Int)==A0 cs (14))&&(((A0 cs (15):Int)==A0 cs (15))&&(((A0 cs (16):Int)==A0 cs (16))&&(((A0 cs (17):Int)==A0 cs (17))&&((A0 cs (18):Int)==A0 cs (18)))))))))))))))))))))) [some ⟨1,([.bool (A5 cs (0)),.int .u32 (A0 cs (1)),.int .u32 (A0 cs (2)),.int .u32 (A0 cs (3)),.int .u32 (A0 cs (4)),.int .u32 (A0 cs (5)),.int .u32 (A0 cs (6)),.int .u32 (A0 cs (7)),.int .u32 (A0 cs (8)),.int .u32 (A0 cs (9)),.int .u32 (A0 cs (10)),.int .u32 (A0 cs (11)),.int .u32 (A0 cs (12)),.int .u32 (A0 cs (13)),.int .u32 (A0 cs (14)),.int .u32 (A0 cs (15)),.int .u32 (A0 cs (16)),.int .u32 (A0 cs (17)),.int .u32 (A0 cs (18))]:List AV)⟩])∧(A5 cs (0)=false→R (.bool (((A5 cs (0):Bool)==A5 cs (0)))) [some ⟨1,([.bool (A5 cs (0)),.int .u32 (A0 cs (1)),.int .u32 (A0 cs (2)),.int .u32 (A0 cs (3)),.int .u32 (A0 cs (4)),.int .u32 (A0 cs (5)),.int .u32 (A0 cs (6)),.int .u32 (A0 cs (7)),.int .u32 (A0 cs (8)),.int .u32 (A0 cs (9)),.int .u32 (A0 cs (10)),.int .u32 (A0 cs (11)),.int .u32 (A0 cs (12)),.int .u32 (A0 cs (13)),.int .u32 (A0 cs (14)),.int .u32 (A0 cs (15)),.int .u32 (A0 cs (16)),.int .u32 (A0 cs (17)),.int .u32 (A0 cs (18))]:List AV)⟩])):=by kernel_rfl
theorem aO2:List.range 16=[0,1,2,3,4,5,6,7,8,9,10,11,12,13,14,15]:=rfl
theorem conjP (p q:Sg):(((A5 (encP p) (0):Bool)==A5 (encP q) (0))&&(((A0 (encP p) (1):Int)==A0 (encP q) (1))&&(((A0 (encP p) (2):Int)==A0 (encP q) (2))&&(((A0 (encP p) (3):Int)==A0 (encP q) (3))&&(((A0 (encP p) (4):Int)==A0 (encP q) (4))&&(((A0 (encP p) (5):Int)==A0 (encP q) (5))&&(((A0 (encP p) (6):Int)==A0 (encP q) (6))&&(((A0 (encP p) (7):Int)==A0 (encP q) (7))&&(((A0 (encP p) (8):Int)==A0 (encP q) (8))&&(((A0 (encP p) (9):Int)==A0 (encP q) (9))&&(((A0 (encP p) (10):Int)==A0 (encP q) (10))&&(((A0 (encP p) (11):Int)==A0 (encP q) (11))&&(((A0 (encP p) (12):Int)==A0 (encP q) (12))&&(((A0 (encP p) (13):Int)==A0 (encP q) (13))&&(((A0 (encP p) (14):Int)==A0 (encP q) (14))&&(((A0 (encP p) (15):Int)==A0 (encP q) (15))&&(((A0 (encP p) (16):Int)==A0 (encP q) (16))&&(((A0 (encP p) (17):Int)==A0 (encP q) (17))&&((A0 (encP p) (18):Int)==A0 (encP q) (18))))))))))))))))))))=Ht p q:=by
 show (((true:Bool)==true)&&(((u p.wt:Int)==u q.wt)&&(((u p.hd:Int)==u q.hd)&&(((u (p.at_ 0):Int)==u (q.at_ 0))&&(((u (p.at_ 1):Int)==u (q.at_ 1))&&(((u (p.at_ 2):Int)==u (q.at_ 2))&&(((u (p.at_ 3):Int)==u (q.at_ 3))&&(((u (p.at_ 4):Int)==u (q.at_ 4))&&(((u (p.at_ 5):Int)==u (q.at_ 5))&&(((u (p.at_ 6):Int)==u (q.at_ 6))&&(((u (p.at_ 7):Int)==u (q.at_ 7))&&(((u (p.at_ 8):Int)==u (q.at_ 8))&&(((u (p.at_ 9):Int)==u (q.at_ 9))&&(((u (p.at_ 10):Int)==u (q.at_ 10))&&(((u (p.at_ 11):Int)==u (q.at_ 11))&&(((u (p.at_ 12):Int)==u (q.at_ 12))&&(((u (p.at_ 13):Int)==u (q.at_ 13))&&(((u (p.at_ 14):Int)==u (q.at_ 14))&&((u (p.at_ 15):Int)==u (q.at_ 15))))))))))))))))))))=Ht p q
 simp only [sH,Ht,aO2,List.all_cons,List.all_nil,Bool.and_true,beq_self_eq_true,Bool.true_and]
theorem conjS (p:Sg):(((A5 (encP p) (0):Bool)==A5 (encP p) (0))&&(((A0 (encP p) (1):Int)==A0 (encP p) (1))&&(((A0 (encP p) (2):Int)==A0 (encP p) (2))&&(((A0 (encP p) (3):Int)==A0 (encP p) (3))&&(((A0 (encP p) (4):Int)==A0 (encP p) (4))&&(((A0 (encP p) (5):Int)==A0 (encP p) (5))&&(((A0 (encP p) (6):Int)==A0 (encP p) (6))&&(((A0 (encP p) (7):Int)==A0 (encP p) (7))&&(((A0 (encP p) (8):Int)==A0 (encP p) (8))&&(((A0 (encP p) (9):Int)==A0 (encP p) (9))&&(((A0 (encP p) (10):Int)==A0 (encP p) (10))&&(((A0 (encP p) (11):Int)==A0 (encP p) (11))&&(((A0 (encP p) (12):Int)==A0 (encP p) (12))&&(((A0 (encP p) (13):Int)==A0 (encP p) (13))&&(((A0 (encP p) (14):Int)==A0 (encP p) (14))&&(((A0 (encP p) (15):Int)==A0 (encP p) (15))&&(((A0 (encP p) (16):Int)==A0 (encP p) (16))&&(((A0 (encP p) (17):Int)==A0 (encP p) (17))&&((A0 (encP p) (18):Int)==A0 (encP p) (18))))))))))))))))))))=true:=by simp
theorem wC_P (G:Nat→List AV) (p:Sg) (j:Nat):vL G (wC nG (.var j (encP p)))=encP p:=rfl
theorem p_same (G:Nat→List AV) (B:Nat) (p q:Sg):ACalls (⟨Try.prog,G,B⟩:A3) 24 [.ptr (.rw 0) 0,.ptr (.rw 1) 0] [some ⟨1,encP p⟩,some ⟨1,encP q⟩] fun v H'=>v=.bool (Ht p q)∧H'.take 2=[some ⟨1,encP p⟩,some ⟨1,encP q⟩]:=by
 have key:=D3 (C:=(⟨Try.prog,G,B⟩:A3)) (f:=24) (R:=fun v' H'=>v'=.bool (Ht p q)∧H'=[some ⟨1,encP p⟩,some ⟨1,encP q⟩]) (dgood (inl:=[55]) (sums:=[]) (ls:=[]) (M:=0) (cs:=[]) (mix G B) (by kernel_rfl) .nil .nil) (by kernel_rfl) (by kernel_rfl) (by kernel_rfl) (fuel:=200) (n0:=10) (keep:=2) (args:=[.ptr (.rw 0) (.lit 0),.ptr (.rw 1) (.lit 0)]) (H:=[some ⟨1,wC nG (.var 1 (encP p))⟩,some ⟨1,wC nG (.var 2 (encP q))⟩]) (by
  rw [t22,conjP]
  exact ⟨fun _=>⟨fun _=>⟨rfl,rfl⟩,fun h=>(by cases h)⟩,fun h=>(by cases h)⟩)
 simp only [vVs,vV,vR,vN,vHp,List.map_cons,List.map_nil,Option.map_some,C9,wC_P] at key;exact key
theorem aQ0 (G:Nat→List AV) (B:Nat) (p:Sg):ACalls (⟨Try.prog,G,B⟩:A3) 24 [.ptr (.rw 0) 0,.ptr (.rw 0) 0] [some ⟨1,encP p⟩] fun v H'=>v=.bool true∧H'.take 1=[some ⟨1,encP p⟩]:=by
 have key:=D3 (C:=(⟨Try.prog,G,B⟩:A3)) (f:=24) (R:=fun v' H'=>v'=.bool true∧H'=[some ⟨1,encP p⟩]) (dgood (inl:=[55]) (sums:=[]) (ls:=[]) (M:=0) (cs:=[]) (mix G B) (by kernel_rfl) .nil .nil) (by kernel_rfl) (by kernel_rfl) (by kernel_rfl) (fuel:=200) (n0:=10) (keep:=1) (args:=[.ptr (.rw 0) (.lit 0),.ptr (.rw 0) (.lit 0)]) (H:=[some ⟨1,wC nG (.var 1 (encP p))⟩]) (by
  rw [t22s,conjS]
  exact ⟨fun _=>⟨rfl,rfl,rfl⟩,fun h=>(by cases h)⟩)
 simp only [vVs,vV,vR,vN,vHp,List.map_cons,List.map_nil,Option.map_some,C9,wC_P] at key;exact key
theorem iH (p q:Sg):Ei [.agg (encP p),.agg (encP q)]=Ht p q:=by simp only [Ei,E8]
theorem si_b (G:Nat→List AV) (cs ds:List AV) (n:Nat) (i:Int) (Q:Ex→List AV→Hp→Prop) (R:AV→Hp→Prop):vT G Q R (J6 (Dc Try.prog [] [] [] 0) 200 10 2 (loopN Try.f34 0) 26 [0,1,4,5] [.slice true (.rw 0) (.lit 0) (.var 5 n),.slice true (.rw 1) (.lit 0) (.var 5 n),.bool (.lit false),.int .i64 (.var 6 i)] [some ⟨1,.var 1 cs⟩,some ⟨1,.var 2 ds⟩])=(
  (decide ((i:Int)<((n:Nat):Int))=true→decide ((0:Int)≤i)=true∧decide ((i:Int)<((n:Nat):Int))=true∧isI .i64 cs (Int.toNat (i))=true∧decide ((0:Int)≤i)=true∧decide ((i:Int)<((n:Nat):Int))=true∧isI .i64 ds (Int.toNat (i))=true∧(((A0 cs (Int.toNat (i)):Int)==A0 ds (Int.toNat (i)))=true→Q .normal [.slice true (.rw 0) (0) (n),.slice true (.rw 1) (0) (n),.bool (false),.int .i64 (IntKind.wrap .i64 (i+1))] [some ⟨1,cs⟩,some ⟨1,ds⟩])∧(((A0 cs (Int.toNat (i)):Int)==A0 ds (Int.toNat (i)))=false→Q .ret [.slice true (.rw 0) (0) (n),.slice true (.rw 1) (0) (n),.bool (false),.int .i64 (i)] [some ⟨1,cs⟩,some ⟨1,ds⟩]))∧(decide ((i:Int)<((n:Nat):Int))=false→Q (.exit 0) [.slice true (.rw 0) (0) (n),.slice true (.rw 1) (0) (n),.bool (false),.int .i64 (i)] [some ⟨1,cs⟩,some ⟨1,ds⟩])):=by kernel_rfl
def J25 (x:List AV) (n:Nat) (j:Nat) (vs:List AV) (H:Hp):Prop:=∃ i:Nat,i≤n∧j=n - i∧vs=[.slice true (.rw 0) 0 n,.slice true (.rw 1) 0 n,.bool false,.int .i64 (i:Int)]∧H=[some ⟨1,x⟩,some ⟨1,x⟩]
theorem aN0 (G:Nat→List AV) (B:Nat) (x:List AV) (n:Nat) (hx:Vq .i64 x 0 n=true) (hn:n≤1000000) :
  AWp (⟨Try.prog,G,B⟩:A3) 2 (.loop (loopN Try.f34 0)) (fl 26 [0,1,4,5] [.slice true (.rw 0) 0 n,.slice true (.rw 1) 0 n,.bool false,.int .i64 0]) [some ⟨1,x⟩,some ⟨1,x⟩]
   (lv 26 [0,1,4,5] fun e vs H=>e=.exit 0∧wk [.undef,.undef,.bool false,.undef] vs∧H=[some ⟨1,x⟩,some ⟨1,x⟩]):=by
 refine Ci (J25 x n) n ⟨0,by omega,rfl,rfl,rfl⟩ ?_;rintro j vs H ⟨i,hi,rfl,rfl,rfl⟩;refine E2 (C:=(⟨Try.prog,G,B⟩:A3)) (aN G B) (fuel:=200) (n0:=10) (m:=2) (c:=loopN Try.f34 0) (vs:=[.slice true (.rw 0) (.lit 0) (.var 5 n),.slice true (.rw 1) (.lit 0) (.var 5 n),.bool (.lit false),.int .i64 (.var 6 (i:Int))]) (H:=[some ⟨1,.var 1 x⟩,some ⟨1,.var 2 x⟩]) (by simp) ?_;rw [si_b,Int.toNat_natCast]
 have hst:i<n→isI .i64 x i=true:=fun h=>by
  have:=Oh hx h
  rwa [Nat.zero_add] at this
 repeat' first | refine And.intro ?_ ?_ | intro _
 all_goals try simp only [decide_eq_true_eq,decide_eq_false_iff_not] at *
 all_goals first
  | omega
  | exact hst (by omega)
  | rfl
  | (simp [wk];done)
  | (simp_all;done)
  | skip
 exact ⟨n - (i+1),by omega,.inl ⟨i+1,by omega,rfl,by rw [D9 (by omega)];rfl,rfl⟩⟩
def X3:List AV→Bool:=fun xs=>match xs with
 | [.agg x,.ptr _ n,.agg y,.ptr _ m]=>Nat.beq n m&&(Vq .i64 x 0 n&&(Nat.ble n 1000000&&Hg x y))
 | _=>false
def siL:DL:=⟨0,26,[0,1,4,5],fun vs H=>match vs,H with
 | [.slice true (.rw 0) (.lit 0) n,.slice true (.rw 1) (.lit 0) m,.bool (.lit false),.int .i64 (.lit 0)],[some ⟨1,x⟩,some ⟨1,y⟩]=>
  some (.chk (.uf 1051 X3 [.agg x,.ptr (.rw 0) n,.agg y,.ptr (.rw 0) m]) (.one (.exit 0) [.undef,.undef,.bool (.lit false),.undef] [some ⟨1,x⟩,some ⟨1,y⟩]))
 | _,_=>none⟩
theorem siL_ok (G:Nat→List AV) (B:Nat):O9 (⟨Try.prog,G,B⟩:A3) 2 (loopN Try.f34 0) siL:=by
 refine .of fun vs H o ho n Q hQ=>?_;simp only [siL] at ho;split at ho
 ·rename_i n m x y;simp only [Option.some.injEq] at ho;subst ho;obtain ⟨h1,h2⟩:=hQ;simp only [vB,vVs,vV,vR,vN,X3,Bool.and_eq_true] at h1;obtain ⟨e1,e2,e3,e4⟩:=h1;have e1:=Nat.eq_of_beq_eq_true e1;have e4:=Ot e4;refine lone ?_ h2;simp only [siL,vVs,vV,vR,vN,vI,vB,vHp,List.map_cons,List.map_nil,Option.map_some,C9];rw [←e1,←e4];exact aN0 G B _ _ e2 (Nat.le_of_ble_eq_true e3)
 ·simp at ho
theorem dgSI (G:Nat→List AV) (B:Nat):I9 (⟨Try.prog,G,B⟩:A3) (Dc Try.prog [] [] [siL] 2) (loopsOf (bodyOf Try.f34)):=dgood (mix G B) (by kernel_rfl) .nil (.cast (.cons (i:=0) (by kernel_rfl) rfl (siL_ok G B) .nil) (by kernel_rfl))
theorem t25 (G:Nat→List AV) (cs ds:List AV) (n:Nat) (Q:Ex→List AV→Hp→Prop) (R:AV→Hp→Prop):vT G Q R (D0 (Dc Try.prog [] [] [siL] 2) 200 10 Try.f34 [.slice true (.rw 0) (.lit 0) (.var 5 n),.slice true (.rw 1) (.lit 0) (.var 5 n)] [some ⟨1,.var 1 cs⟩,some ⟨1,.var 2 ds⟩] 2)=(
  ((((n:Nat):Int):Int)==((n:Nat):Int))=true∧X3 [.agg cs,.ptr (.rw 0) (n),.agg ds,.ptr (.rw 0) (n)]=true∧R (.bool (true)) [some ⟨1,cs⟩,some ⟨1,ds⟩]):=by kernel_rfl
theorem jI:∀ {x:List AV},x.all (fun v=>eD v v)=true→Hg x x=true
 | [],_=>rfl
 | v::x,h=>by
  simp only [List.all_cons,Bool.and_eq_true] at h;simp only [Hg,h.1,jI h.2,Bool.and_self]
theorem aN1 (G:Nat→List AV) (B:Nat) (x:List AV) (n:Nat) (hx:Vq .i64 x 0 n=true) (hn:n≤1000000) (hc:Hg x x=true):ACalls (⟨Try.prog,G,B⟩:A3) 34 [.slice true (.rw 0) 0 n,.slice true (.rw 1) 0 n] [some ⟨1,x⟩,some ⟨1,x⟩] fun v H'=>v=.bool true∧H'.take 2=[some ⟨1,x⟩,some ⟨1,x⟩]:=by
 have key:=D3 (C:=(⟨Try.prog,G,B⟩:A3)) (f:=34) (R:=fun v' H'=>v'=.bool true∧H'=[some ⟨1,x⟩,some ⟨1,x⟩]) (dgSI G B) (by kernel_rfl) (by kernel_rfl) (by kernel_rfl) (fuel:=200) (n0:=10) (keep:=2) (args:=[.slice true (.rw 0) (.lit 0) (.var 5 n),.slice true (.rw 1) (.lit 0) (.var 5 n)]) (H:=[some ⟨1,.var 1 x⟩,some ⟨1,.var 2 x⟩]) (by
  rw [t25]
  have:X3 [.agg x,.ptr (.rw 0) n,.agg x,.ptr (.rw 0) n]=true:=by
   simp only [X3,Nat.beq_refl,hx,hc,Bool.true_and,Bool.and_true];exact Nat.ble_eq_true_of_le hn
  repeat' first | refine And.intro ?_ ?_ | intro _
  all_goals first
   | exact this
   | rfl
   | (simp;done))
 simp only [vVs,vV,vR,vN,vHp,List.map_cons,List.map_nil,Option.map_some,C9,vL] at key;exact key
def sameIntsS:DSum:=fun xs H=>match xs with
 | [.slice mb (.rw i) (.lit 0) n,.slice mb' (.rw j) (.lit 0) m]=>match H[i]?,H[j]? with
  | some (some ⟨1,x⟩),some (some ⟨1,y⟩)=>match Nat.beq i j with
   | true=>none
   | false=>some (.chk (.uf 1051 X3 [.agg x,.ptr (.rw 0) n,.agg y,.ptr (.rw 0) m]) (.one (.bool (.lit true)) []))
  | _,_=>none
 | _=>none
theorem jJ:∀ {x y:List AV},Hg x y=true→A8 0 x=true
 | [],_,_=>rfl
 | v::x,[],h=>by simp [Hg] at h
 | v::x,w::y,h=>by
  simp only [Hg,Bool.and_eq_true] at h
  have:=jJ h.2
  simp only [A8,this,Bool.and_true];have h1:=h.1;unfold eD at h1;split at h1<;>first | rfl | (simp at h1;done)
theorem Wh (G:Nat→List AV) (B:Nat):G0 (⟨Try.prog,G,B⟩:A3) 34 sameIntsS:=by
 intro xs H o ho;simp only [sameIntsS] at ho;split at ho
 ·rename_i mb i n mb' j m;split at ho
  ·rename_i x y hi hj;split at ho
   ·simp at ho
   ·rename_i hij;have hij:i≠j:=fun h=>by rw [h,Nat.beq_refl] at hij;simp at hij
    simp at ho;subst ho;intro h1;simp only [vB,vVs,vV,vR,vN,X3,Bool.and_eq_true] at h1;obtain ⟨e1,e2,e3,e4⟩:=h1;have e1:=Nat.eq_of_beq_eq_true e1;have e5:=Ot e4;have hx:Hg (vL G x) (vL G x)=true:=by rw [←e5] at e4;exact e4
    have hf:=jJ e4
    have key:=E1.get2 (C:=(⟨Try.prog,G,B⟩:A3)) (f:=34) (args0:=[.slice true (.rw 0) 0 (vN G n),.slice true (.rw 1) 0 (vN G n)]) (args:=[.slice true (.rw i) (.lit 0) n,.slice true (.rw j) (.lit 0) m]) (v:=.bool (.lit true)) hij hi hj (by
     simp only [C9,vV,vB];rw [←e5]
     exact aN1 G B _ _ e2 (Nat.le_of_ble_eq_true e3) hx) hf (by show A8 0 (vL G y)=true;rw [←e5];exact hf) (by simp [A8,bnd]) (by simp only [vVs,vV,vR,vN,rens,ren];rw [←e1];rfl) (by simp [vV,bnd]) (by simp [vV])
    unfold X0 E1 at *;refine ACalls.weaken key ?_;intro ρ vs hv;simp only [vVs,vV,vR,vN,VRs] at hv ⊢;obtain ⟨v,vs',r1,r2,w,ws',r3,r4,r5⟩:=hv;exact ⟨v,vs',r1,pB r2,w,ws',r3,pB r4,r5⟩
  ·simp at ho
 ·simp at ho
end Go.Am
namespace Go.Am
open Go.Proofs Crc
set_option maxRecDepth 100000
theorem s24a (G:Nat→List AV) (tb:List AV) (Q:Ex→List AV→Hp→Prop) (R:AV→Hp→Prop):vT G Q R (D0 (Dc Try.prog [55] [] [] 0) 100 10 Try.f24 [.nilp,.nilp] [] 0)=(
  R (.bool (true)) []):=by kernel_rfl
theorem s24b (G:Nat→List AV) (tb:List AV) (Q:Ex→List AV→Hp→Prop) (R:AV→Hp→Prop):vT G Q R (D0 (Dc Try.prog [55] [] [] 0) 100 10 Try.f24 [.nilp,.ptr (.rw 0) (.lit 0)] [some ⟨1,.var 1 tb⟩] 1)=(
  isB tb (0)=true∧R (.bool ((!(A5 tb (0))))) [some ⟨1,tb⟩]):=by kernel_rfl
theorem s24c (G:Nat→List AV) (tb:List AV) (Q:Ex→List AV→Hp→Prop) (R:AV→Hp→Prop):vT G Q R (D0 (Dc Try.prog [55] [] [] 0) 100 10 Try.f24 [.ptr (.rw 0) (.lit 0),.nilp] [some ⟨1,.var 1 tb⟩] 1)=(
  isB tb (0)=true∧(A5 tb (0)=true→isB tb (0)=true∧R (.bool ((!(A5 tb (0))))) [some ⟨1,tb⟩])∧(A5 tb (0)=false→isB tb (0)=true∧R (.bool ((!(A5 tb (0))))) [some ⟨1,tb⟩])):=by kernel_rfl
theorem aR2 (G:Nat→List AV) (B:Nat):ACalls (⟨Try.prog,G,B⟩:A3) 24 [.nilp,.nilp] [] fun v H'=>v=.bool true∧H'.take 0=[]:=by
 have:=D3 (C:=(⟨Try.prog,G,B⟩:A3)) (f:=24) (args:=[.nilp,.nilp]) (H:=[]) (keep:=0) (R:=fun v H'=>v=.bool true∧H'=[]) (dgood (inl:=[55]) (sums:=[]) (ls:=[]) (M:=0) (cs:=[]) (mix G B) (by kernel_rfl) .nil .nil) (by kernel_rfl) (by kernel_rfl) (by kernel_rfl) (fuel:=100) (n0:=10) (by rw [s24a G []];exact ⟨rfl,rfl⟩)
 exact this
theorem aR1 (G:Nat→List AV) (B:Nat) (p:Sg):ACalls (⟨Try.prog,G,B⟩:A3) 24 [.nilp,.ptr (.rw 0) 0] [some ⟨1,encP p⟩] fun v H'=>v=.bool false∧H'.take 1=[some ⟨1,encP p⟩]:=by
 have:=D3 (C:=(⟨Try.prog,G,B⟩:A3)) (f:=24) (args:=[.nilp,.ptr (.rw 0) (.lit 0)]) (H:=[some ⟨1,.var 1 (encP p)⟩]) (keep:=1) (R:=fun v H'=>v=.bool false∧H'=[some ⟨1,encP p⟩]) (dgood (inl:=[55]) (sums:=[]) (ls:=[]) (M:=0) (cs:=[]) (mix G B) (by kernel_rfl) .nil .nil) (by kernel_rfl) (by kernel_rfl) (by kernel_rfl) (fuel:=100) (n0:=10) (by rw [s24b];exact ⟨rfl,rfl,rfl⟩)
 exact this
theorem aR0 (G:Nat→List AV) (B:Nat) (p:Sg):ACalls (⟨Try.prog,G,B⟩:A3) 24 [.ptr (.rw 0) 0,.nilp] [some ⟨1,encP p⟩] fun v H'=>v=.bool false∧H'.take 1=[some ⟨1,encP p⟩]:=by
 have:=D3 (C:=(⟨Try.prog,G,B⟩:A3)) (f:=24) (args:=[.ptr (.rw 0) (.lit 0),.nilp]) (H:=[some ⟨1,.var 1 (encP p)⟩]) (keep:=1) (R:=fun v H'=>v=.bool false∧H'=[some ⟨1,encP p⟩]) (dgood (inl:=[55]) (sums:=[]) (ls:=[]) (M:=0) (cs:=[]) (mix G B) (by kernel_rfl) .nil .nil) (by kernel_rfl) (by kernel_rfl) (by kernel_rfl) (fuel:=100) (n0:=10) (by rw [s24c];exact ⟨rfl,fun _=>⟨rfl,rfl,rfl⟩,fun h=>by cases h⟩)
 exact this
theorem E1.rdA {C:A3} {f:FuncId} {args0:List AV} {args:List EV} {H:DHp} {θ:List Nat} {H0:Hp} {v:EV} {k:Nat} (hnd:θ.Nodup) (hl:θ.length=H0.length)
  (hlive:∀ (i:Nat) b,H0[i]?=some b→∃ b0,b=some b0∧A8 0 b0.cells=true∧(vHp C.G H)[θ.getD i 0]?=some (some b0))
  (ha:A8 θ.length args0=true) (he:vVs C.G args=rens θ args0) (h:ACalls C f args0 H0 fun v' H'=>v'=vV C.G v∧H'.take k=H0) (hv:bnd 0 (vV C.G v)=true) (hu:vV C.G v≠.undef):E1 C f args H v []:=by
 have hb:D7 H0.length H0=true:=by
  have key:∀ (n:Nat) (A:Hp),(∀ (i:Nat) x,A[i]?=some (some x)→A8 n x.cells=true)→D7 n A=true:=by
   intro n A
   induction A with
   | nil=>intro _;rfl
   | cons a A ih=>
    intro g
    have:=ih fun i x hx=>g (i+1) x (by simpa using hx)
    cases a with
    | none=>simpa [D7] using this
    | some x=>simp only [D7,Bool.and_eq_true];exact ⟨g 0 x rfl,this⟩
  refine key _ _ fun i x hx=>?_;obtain ⟨b0,e,g,_⟩:=hlive i _ hx;simp only [Option.some.injEq] at e;subst e;exact C6 (Nat.zero_le _) _ g
 have h:=h.keep (Nat.le_refl _) hb (O0 (Nat.zero_le _) _ hv) hu
 have lv:∀ (θ':List Nat) (i:Nat) b,H0[i]?=some b→∃ b0,b=some b0∧A8 θ.length b0.cells=true∧(vHp C.G H)[θ.getD i 0]?=some (some (F9 θ' b0)):=fun θ' i b hi=>by
  obtain ⟨b0,e,g1,g2⟩:=hlive i b hi;refine ⟨b0,e,C6 (Nat.zero_le _) _ g1,?_⟩
  have:F9 θ' b0=b0:=by unfold F9;rw [E0 _ _ g1]
  rw [this];exact g2
 refine E1.fr hnd hl (lv θ) ha he h (Nat.le_refl _) (O0 (Nat.zero_le _) _ hv) hb (U2 _ _ hv).symm ?_;unfold L4;rw [hl,Nat.sub_self,List.drop_of_length_le (Nat.le_refl _)];show vHp C.G H=lay _ _ _ _++[];rw [List.append_nil,Ft]
 ·intro i b _ hi;obtain ⟨b0,rfl,_,g⟩:=lv (J0 θ (vHp C.G H).length 0) i b hi;exact g
def Ze (s:Side) (H:DHp):EV→Option (EL×List EB)
 | .ptr (.fm b c i) o=>match Gu H b c with
  | some (z,l,ls)=>match Nat.beq z 1,s.get (.row l i) with
   | true,some (bc,d)=>some (d,[.eqN o (.lit 0),S4 (N1 i (.lit 1)) (.lit c),.rows l ls,S4 (N1 i (.lit 1)) (.len l),bc])
   | _,_=>none
  | none=>none
 | _=>none
def gU:List EB→Outs→Outs
 | [],o=>o
 | b::bs,o=>.chk b (gU bs o)
theorem Td {G:Nat→List AV} {Q:EV→List DHop→Prop} {o:Outs}:∀ {bs:List EB},((∀ b∈bs,vB G b=true)→X0 G Q o)→X0 G Q (gU bs o)
 | [],h=>h fun _ hb=>by cases hb
 | b::bs,h=>fun hb=>Td (bs:=bs) fun hbs=>h fun b' hb'=>by
  rcases List.mem_cons.1 hb' with rfl | hb'
  ·exact hb
  ·exact hbs b' hb'
theorem Uw {G:Nat→List AV} {s:Side} {enc:Sg→List AV} (hs:Q5 G s enc) {H:DHp} {a:EV} {d:EL} {bs:List EB} (h:Ze s H a=some (d,bs)) (hb:∀ b∈bs,vB G b=true) :
  ∃ j p,vV G a=.ptr (.rw j) 0∧(vHp G H)[j]?=some (some ⟨1,enc p⟩)∧vL G d=encP p:=by
 unfold Ze at h;split at h
 ·rename_i b c i o;split at h
  ·rename_i z l ls hf;split at h
   ·rename_i bc d' hz hg;have hz:=Nat.eq_of_beq_eq_true hz;subst hz;simp only [Option.some.injEq,Prod.mk.injEq] at h;obtain ⟨rfl,rfl⟩:=h;have h1:vN G o=0:=Nat.eq_of_beq_eq_true (hb (.eqN o (.lit 0)) (by simp));have h2:=Yz (hb (S4 (N1 i (.lit 1)) (.lit c)) (by simp));have h3:rowsA (vL G l) (vVs G ls)=true:=hb (.rows l ls) (by simp);have h4:=Yz (hb (S4 (N1 i (.lit 1)) (.len l)) (by simp));have h5:=hb bc (by simp);rw [L1] at h2 h4;have h2:vN G i+1≤c:=h2;obtain ⟨p,e1,e2⟩:=hs.get _ _ _ hg h5;have e2:A1 (vL G l) (vN G i)=enc p:=e2
    have hat:=Mu hf h3 (i:=vN G i) (by omega);rw [e2] at hat;exact ⟨b+vN G i,p,by simp only [vV,vR,h1],hat,e1⟩
   ·cases h
  ·cases h
 ·cases h
def cM (s:Side):DSum:=fun xs H=>match xs with
 | [a,b]=>match a,b with
  | .nilp,.nilp=>some (.one (.bool (.lit true)) [])
  | .nilp,b=>match Ze s H b with
   | some (_,bs)=>some (gU bs (.one (.bool (.lit false)) []))
   | none=>none
  | a,.nilp=>match Ze s H a with
   | some (_,bs)=>some (gU bs (.one (.bool (.lit false)) []))
   | none=>none
  | a,b=>match Ze s H a,Ze s H b with
   | some (d,bs),some (d',bs')=>some (gU bs (gU bs' (.one (.bool (.uf 1060 Ei [.agg d,.agg d'])) [])))
   | _,_=>none
 | _=>none
theorem aF (p:Sg):Ht p p=true:=by simp [Ht]
theorem aB0 {C:A3} {s:Side} {enc:Sg→List AV} (hs:Q5 C.G s enc) (hinj:∀ p q,enc p=enc q→p=q) {f:FuncId} (h2:∀ p q,ACalls C f [.ptr (.rw 0) 0,.ptr (.rw 1) 0] [some ⟨1,enc p⟩,some ⟨1,enc q⟩] fun v H'=>v=.bool (Ht p q)∧H'.take 2=[some ⟨1,enc p⟩,some ⟨1,enc q⟩])
  (h1:∀ p,ACalls C f [.ptr (.rw 0) 0,.ptr (.rw 0) 0] [some ⟨1,enc p⟩] fun v H'=>v=.bool true∧H'.take 1=[some ⟨1,enc p⟩])
  (h0:ACalls C f [.nilp,.nilp] [] fun v H'=>v=.bool true∧H'.take 0=[])
  (hl:∀ p,ACalls C f [.nilp,.ptr (.rw 0) 0] [some ⟨1,enc p⟩] fun v H'=>v=.bool false∧H'.take 1=[some ⟨1,enc p⟩])
  (hr:∀ p,ACalls C f [.ptr (.rw 0) 0,.nilp] [some ⟨1,enc p⟩] fun v H'=>v=.bool false∧H'.take 1=[some ⟨1,enc p⟩]):G0 C f (cM s):=by
 have one:∀ {H:DHp} {j:Nat} {p:Sg},(vHp C.G H)[j]?=some (some ⟨1,enc p⟩)→∀ (i:Nat) b,([some ⟨1,enc p⟩]:Hp)[i]?=some b→∃ b0,b=some b0∧A8 0 b0.cells=true∧(vHp C.G H)[([j]:List Nat).getD i 0]?=some (some b0):=fun {H j p} hj i b hi=>by
  match i with
  | 0=>simp at hi;subst hi;exact ⟨_,rfl,hs.flat _ _,hj⟩
  | i+1=>simp at hi
 intro xs H o ho;unfold cM at ho;split at ho
 ·rename_i a b;split at ho
  ·simp only [Option.some.injEq] at ho;subst ho;exact E1.rdA (θ:=[]) (k:=0) (by simp) rfl (fun i b hi=>by simp at hi) rfl rfl h0 rfl (by simp [vV])
  ·split at ho
   ·rename_i d bs hf;simp only [Option.some.injEq] at ho;subst ho;refine Td fun hb=>?_;obtain ⟨j,p,e1,e2,e3⟩:=Uw hs hf hb;exact E1.rdA (θ:=[j]) (k:=1) (by simp) rfl (one e2) rfl (by simp only [vVs,e1];rfl) (hl p) rfl (by simp [vV])
   ·cases ho
  ·split at ho
   ·rename_i d bs hf;simp only [Option.some.injEq] at ho;subst ho;refine Td fun hb=>?_;obtain ⟨j,p,e1,e2,e3⟩:=Uw hs hf hb;exact E1.rdA (θ:=[j]) (k:=1) (by simp) rfl (one e2) rfl (by simp only [vVs,e1];rfl) (hr p) rfl (by simp [vV])
   ·cases ho
  ·split at ho
   ·rename_i d bs d' bs' hf hf';simp only [Option.some.injEq] at ho;subst ho;refine Td fun hb=>Td fun hb'=>?_;obtain ⟨j,p,e1,e2,e3⟩:=Uw hs hf hb;obtain ⟨j',q,e1',e2',e3'⟩:=Uw hs hf' hb';have ev:vV C.G (.bool (.uf 1060 Ei [.agg d,.agg d']))=.bool (Ht p q):=by simp only [vV,vB,vVs,e3,e3',iH]
    by_cases hj:j=j'
    ·subst hj
     have:p=q:=hinj _ _ (by rw [e2] at e2';simpa using e2')
     subst this;refine E1.rdA (θ:=[j]) (k:=1) (by simp) rfl (one e2) (args0:=[.ptr (.rw 0) 0,.ptr (.rw 0) 0]) rfl (by simp only [vVs,e1,e1'];rfl) ?_ (by rw [ev];rfl) (by rw [ev];simp);rw [ev,aF];exact h1 p
    ·refine E1.rdA (θ:=[j,j']) (H0:=[some ⟨1,enc p⟩,some ⟨1,enc q⟩]) (k:=2) (by simp [hj]) rfl (fun i b hi=>?_) (args0:=[.ptr (.rw 0) 0,.ptr (.rw 1) 0]) rfl (by simp only [vVs,e1,e1'];rfl) ?_ (by rw [ev];rfl) (by rw [ev];simp)
     ·match i with
      | 0=>simp at hi;subst hi;exact ⟨_,rfl,hs.flat _ _,e2⟩
      | 1=>simp at hi;subst hi;exact ⟨_,rfl,hs.flat _ _,e2'⟩
      | i+2=>simp at hi
     ·rw [ev];exact h2 p q
   ·cases ho
 ·cases ho
theorem wH (G:Nat→List AV) (B:Nat):G0 (⟨Try.prog,G,B⟩:A3) 24 (cM N0):=aB0 (S0 G) (fun p q h=>oQ h) (p_same G B) (aQ0 G B) (aR2 G B) (aR1 G B) (aR0 G B)
end Go.Am
