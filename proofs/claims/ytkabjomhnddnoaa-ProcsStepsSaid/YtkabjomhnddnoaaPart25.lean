/-
  Processes: the document's Wait: the call. Processes: the document's New.
-/
import Derived.Test.YtkabjomhnddnoaaPart24
import Derived.Test.YtkabjomhnddnoaaPart20
import Derived.Test.YtkabjomhnddnoaaPart19
import Derived.Test.YtkabjomhnddnoaaPart21
import Derived.Test.YtkabjomhnddnoaaPart23
namespace Go.Am
open Go.Proofs Crc
set_option maxRecDepth 100000
theorem wu_c (G:Nat→List AV) (okr rl:List AV→Bool) (xor:List AV→List AV) (tb sl ks tf:List AV) (n w fc fs:Int) (fb wb:Bool) (Q:Ex→List AV→Hp→Prop) (R:AV→Hp→Prop):vT G Q R (D0 (Dc Try.prog [67,60] [(61,nM okr xor)] [E5 2372 (rl) 0 83 [0,2,6,7,8,9,11,12,13] (.tst (.var 9 fb) (.one .ret [.undef,.undef,.int .i64 (.var 10 fc),.int .i64 (.var 11 fs),.bool (.lit false),.int .i64 (.lit 0),.undef,.undef,.undef] (hp3 [some ⟨1,.var 21 tf⟩] (.var 2 sl) [some ⟨1,.var 22 ks⟩])) (.one (.exit 0) [.undef,.undef,.int .i64 (.lit 0),.int .i64 (.lit 0),.bool (.lit false),.int .i64 (.lit 0),.undef,.bool (.var 7 wb),.undef] (hp3 [some ⟨1,.var 1 tb⟩] (.var 2 sl) [some ⟨1,.var 22 ks⟩])))] 14) 300 40 Try.f43 [.ptr (.rw 0) (.lit 0),.int .i64 (.var 3 n),.int .i64 (.var 4 w)] (hp3 [some ⟨1,.var 1 tb⟩] (.var 2 sl) []) 14)=(
  (decide ((n:Int)≥1)=true→(decide ((n:Int)≤12)=true→decide ((0:Int)≤n)=true∧decide ((n:Int)<13)=true∧isI .i64 tb ((Int.toNat (n))*6)=true∧(((A0 tb ((Int.toNat (n))*6):Int)==n)=true→decide ((0:Int)≤n)=true∧decide ((n:Int)<13)=true∧isB tb ((Int.toNat (n))*6+4)=true∧(A5 tb ((Int.toNat (n))*6+4)=true→R (.tup [.int .i64 (0),.int .i64 (0),.bool (false),.int .i64 (6)]) ([some ⟨1,tb⟩]++A2 sl))∧(A5 tb ((Int.toNat (n))*6+4)=false→(((w:Int)==(-1))=true→rowsA sl (rp 13 sl)=true∧(okr) [.agg tb,.agg sl]=true∧(rl) [.agg ([.ptr (.rw 0) (0),.int .i64 (w),.int .i64 (0),.int .i64 (0),.bool (false),.int .i64 (0),.slice true (.rw 14) (0) (O5 [.agg ((xor) [.agg tb,.agg sl]),.int .i64 (n)]),.bool (false),.int .i64 (0)]:List AV),.agg ((Ez [.tup [.int .i64 (1),.agg tb]] sl [.tup [.int .i64 (1),.agg (H4 [.agg ((xor) [.agg tb,.agg sl]),.int .i64 (n)])]]):List AV)]=true∧(fb=true→R (.tup [.int .i64 (fc),.int .i64 (fs),.bool (false),.int .i64 (0)]) ([some ⟨1,tf⟩]++A2 sl))∧(fb=false→(wb=true→R (.tup [.int .i64 (0),.int .i64 (0),.bool (true),.int .i64 (0)]) ([some ⟨1,tb⟩]++A2 sl))∧(wb=false→R (.tup [.int .i64 (0),.int .i64 (0),.bool (false),.int .i64 (6)]) ([some ⟨1,tb⟩]++A2 sl))))∧(((w:Int)==(-1))=false→(decide ((w:Int)<1)=true→R (.tup [.int .i64 (0),.int .i64 (0),.bool (false),.int .i64 (2)]) ([some ⟨1,tb⟩]++A2 sl))∧(decide ((w:Int)<1)=false→(decide ((w:Int)>12)=true→R (.tup [.int .i64 (0),.int .i64 (0),.bool (false),.int .i64 (2)]) ([some ⟨1,tb⟩]++A2 sl))∧(decide ((w:Int)>12)=false→rowsA sl (rp 13 sl)=true∧(okr) [.agg tb,.agg sl]=true∧
 (rl) [.agg ([.ptr (.rw 0) (0),.int .i64 (w),.int .i64 (0),.int .i64 (0),.bool (false),.int .i64 (0),.slice true (.rw 14) (0) (O5 [.agg ((xor) [.agg tb,.agg sl]),.int .i64 (n)]),.bool (false),.int .i64 (0)]:List AV),.agg ((Ez [.tup [.int .i64 (1),.agg tb]] sl [.tup [.int .i64 (1),.agg (H4 [.agg ((xor) [.agg tb,.agg sl]),.int .i64 (n)])]]):List AV)]=true∧(fb=true→R (.tup [.int .i64 (fc),.int .i64 (fs),.bool (false),.int .i64 (0)]) ([some ⟨1,tf⟩]++A2 sl))∧(fb=false→(wb=true→R (.tup [.int .i64 (0),.int .i64 (0),.bool (true),.int .i64 (0)]) ([some ⟨1,tb⟩]++A2 sl))∧(wb=false→R (.tup [.int .i64 (0),.int .i64 (0),.bool (false),.int .i64 (6)]) ([some ⟨1,tb⟩]++A2 sl))))))))∧(((A0 tb ((Int.toNat (n))*6):Int)==n)=false→R (.tup [.int .i64 (0),.int .i64 (0),.bool (false),.int .i64 (6)]) ([some ⟨1,tb⟩]++A2 sl)))∧(decide ((n:Int)≤12)=false→R (.tup [.int .i64 (0),.int .i64 (0),.bool (false),.int .i64 (6)]) ([some ⟨1,tb⟩]++A2 sl)))∧(decide ((n:Int)≥1)=false→R (.tup [.int .i64 (0),.int .i64 (0),.bool (false),.int .i64 (6)]) ([some ⟨1,tb⟩]++A2 sl))):=by kernel_rfl
theorem sS {s:Ptb} {c:Nat}:H7 tsR (J2 s c) 13 (some ⟨1,B2 1 (J2 s c)⟩::(List.range 13).map fun n=>some ⟨1,A1 (setsL encR s) n⟩):=seen_rows (t:=tsR) rfl tsR_ok (Fd (t:=tsR) (s:=s) fun m p h=>by
 have h:(if m=c then none else s.sg m)=some p:=h;by_cases e:m=c
 ·rw [if_pos e] at h;cases h
 ·rw [if_neg e] at h;exact h)
theorem dgWu (G:Nat→List AV) (B:Nat) {s:Ptb} (hw:Wf s) (n w:Int):I9 (⟨Try.prog,G,B⟩:A3) (Dc Try.prog [67,60] [(61,kidsRS)] [E5 0x944 (G5 [.ptr (.rw 0) 0,.int .i64 w,.int .i64 0,.int .i64 0,.bool false,.int .i64 0,.slice true (.rw 14) 0 (kidT s n 13).length,.bool false,.int .i64 0] (vHp G (hp3 [some ⟨1,.var 1 (B2 1 s)⟩] (.var 2 (setsL encR s)) [some ⟨1,.var 22 (nl (kidT s n 13))⟩]))) 0 83 [0,2,6,7,8,9,11,12,13] (.tst (.var 9 (((kidT s n 13).find? (E4 s w)).isSome)) (.one .ret [.undef,.undef,.int .i64 (.var 10 ((((kidT s n 13).find? (E4 s w)).getD 0):Int)),.int .i64 (.var 11 (s.at_ (((kidT s n 13).find? (E4 s w)).getD 0)).st),.bool (.lit false),.int .i64 (.lit 0),.undef,.undef,.undef] (hp3 [some ⟨1,.var 21 (B2 1 (J2 s (((kidT s n 13).find? (E4 s w)).getD 0)))⟩] (.var 2 (setsL encR s)) [some ⟨1,.var 22 (nl (kidT s n 13))⟩])) (.one (.exit 0) [.undef,.undef,.int .i64 (.lit 0),.int .i64 (.lit 0),.bool (.lit false),.int .i64 (.lit 0),.undef,.bool (.var 7 ((kidT s n 13).any (L0 w))),.undef] (hp3 [some ⟨1,.var 1 (B2 1 s)⟩] (.var 2 (setsL encR s)) [some ⟨1,.var 22 (nl (kidT s n 13))⟩])))] 14) (loopsOf (bodyOf Try.f43)):=
 dgood (mix G B) (by kernel_rfl) (.cons (xQ fun s hw n=>wN G B hw n) .nil) (.cast (.cons (i:=0) (by kernel_rfl) rfl (N5 rfl (aL6 G B hw n w)) .nil) (by kernel_rfl))
theorem r_wait (G:Nat→List AV) (B:Nat) {s:Ptb} (hw:Wf s) (n w:Int):ACalls (⟨Try.prog,G,B⟩:A3) 43 [.ptr (.rw 0) 0,.int .i64 n,.int .i64 w] (B0 tsR s) fun v H'=>v=P9 (I6 s n w).1∧H'=B0 tsR (I6 s n w).2:=by
 have h:=D3 (C:=(⟨Try.prog,G,B⟩:A3)) (K:=Dc Try.prog [67,60] [(61,kidsRS)] [E5 0x944 (G5 [.ptr (.rw 0) 0,.int .i64 w,.int .i64 0,.int .i64 0,.bool false,.int .i64 0,.slice true (.rw 14) 0 (kidT s n 13).length,.bool false,.int .i64 0] (vHp G (hp3 [some ⟨1,.var 1 (B2 1 s)⟩] (.var 2 (setsL encR s)) [some ⟨1,.var 22 (nl (kidT s n 13))⟩]))) 0 83 [0,2,6,7,8,9,11,12,13] (.tst (.var 9 (((kidT s n 13).find? (E4 s w)).isSome)) (.one .ret [.undef,.undef,.int .i64 (.var 10 ((((kidT s n 13).find? (E4 s w)).getD 0):Int)),.int .i64 (.var 11 (s.at_ (((kidT s n 13).find? (E4 s w)).getD 0)).st),.bool (.lit false),.int .i64 (.lit 0),.undef,.undef,.undef] (hp3 [some ⟨1,.var 21 (B2 1 (J2 s (((kidT s n 13).find? (E4 s w)).getD 0)))⟩] (.var 2 (setsL encR s)) [some ⟨1,.var 22 (nl (kidT s n 13))⟩])) (.one (.exit 0) [.undef,.undef,.int .i64 (.lit 0),.int .i64 (.lit 0),.bool (.lit false),.int .i64 (.lit 0),.undef,.bool (.var 7 ((kidT s n 13).any (L0 w))),.undef] (hp3 [some ⟨1,.var 1 (B2 1 s)⟩] (.var 2 (setsL encR s)) [some ⟨1,.var 22 (nl (kidT s n 13))⟩])))] 14) (fuel:=300) (n0:=40) (f:=43) (fn:=Try.f43) (args:=[.ptr (.rw 0) (.lit 0),.int .i64 (.var 3 n),.int .i64 (.var 4 w)]) (H:=(hp3 [some ⟨1,.var 1 (B2 1 s)⟩] (.var 2 (setsL encR s)) [])) (keep:=14)
  (R:=fun v H=>v=P9 (I6 s n w).1∧H7 tsR (I6 s n w).2 13 H) (dgWu G B hw n w) (by kernel_rfl) (by kernel_rfl) (by kernel_rfl) (by
  unfold kidsRS;rw [wu_c];have ex:Ke tsR [.agg (B2 1 s),.agg (setsL encR s)]=encX s:=Rw Yf hw;have eN:O5 [.agg (encX s),.int .i64 n]=(kidT s n 13).length:=by simp only [O5,C7 hw.thin]
  have eL:H4 [.agg (encX s),.int .i64 n]=nl (kidT s n 13):=by simp only [H4,C7 hw.thin]
  have ok:Ne tsR [.agg (B2 1 s),.agg (setsL encR s)]=true:=Pj.2 ⟨s,hw,rfl,rfl⟩;rw [ex,eN,eL];refine Z2 1 (fun hl=>?_) fun hl=>?_
  ·have fin:¬(w≠-1∧(w<1∨12<w))→((((kidT s n 13).find? (E4 s w)).isSome)=true→(P9 (((((kidT s n 13).find? (E4 s w)).getD 0):Int),(s.at_ (((kidT s n 13).find? (E4 s w)).getD 0)).st,false,0)=P9 (I6 s n w).1∧H7 tsR (I6 s n w).2 13 (some ⟨1,B2 1 (J2 s (((kidT s n 13).find? (E4 s w)).getD 0))⟩::(List.range 13).map fun n=>some ⟨1,A1 (setsL encR s) n⟩)))∧
     ((((kidT s n 13).find? (E4 s w)).isSome)=false→((kidT s n 13).any (L0 w)=true→(P9 (0,0,true,0)=P9 (I6 s n w).1∧H7 tsR (I6 s n w).2 13 (some ⟨1,B2 1 s⟩::(List.range 13).map fun n=>some ⟨1,A1 (setsL encR s) n⟩)))∧((kidT s n 13).any (L0 w)=false→(P9 (0,0,false,6)=P9 (I6 s n w).1∧H7 tsR (I6 s n w).2 13 (some ⟨1,B2 1 s⟩::(List.range 13).map fun n=>some ⟨1,A1 (setsL encR s) n⟩)))):=fun hr=>by
    unfold I6;rw [if_pos hl,if_neg hr];cases hf:(kidT s n 13).find? (E4 s w) with
    | some c=>exact ⟨fun _=>⟨rfl,sS⟩,fun h=>by cases h⟩
    | none=>
     refine ⟨(fun h=>by cases h),fun _=>⟨fun ha=>?_,fun ha=>?_⟩⟩
     ·dsimp only;rw [if_pos ha];exact ⟨rfl,D4⟩
     ·dsimp only;rw [if_neg (by rw [ha];simp)];exact ⟨rfl,D4⟩
   have bad:(w≠-1∧(w<1∨12<w))→(P9 (0,0,false,2)=P9 (I6 s n w).1∧H7 tsR (I6 s n w).2 13 (some ⟨1,B2 1 s⟩::(List.range 13).map fun n=>some ⟨1,A1 (setsL encR s) n⟩)):=fun hr=>by
    unfold I6;rw [if_pos hl,if_pos hr];exact ⟨rfl,D4⟩
   refine ⟨fun h1=>?_,fun h1=>⟨fun h2=>?_,fun h2=>⟨fun h3=>?_,fun h3=>?_⟩⟩⟩
   ·have h1:w=-1:=eq_of_beq h1;exact ⟨D6 _ 13,ok,F5,(fin (by omega)).1,(fin (by omega)).2⟩
   ·have h1:¬w=-1:=fun e=>by rw [e] at h1;cases h1
    have h2:=of_decide_eq_true h2;exact bad (by omega)
   ·have h1:¬w=-1:=fun e=>by rw [e] at h1;cases h1
    have h3:=of_decide_eq_true h3;exact bad (by omega)
   ·have h2:=of_decide_eq_false h2;have h3:=of_decide_eq_false h3;exact ⟨D6 _ 13,ok,F5,(fin (by omega)).1,(fin (by omega)).2⟩
  ·unfold I6
   rw [hl];exact ⟨rfl,D4⟩)
 rw [hU] at h;exact Og tsR_ok h rfl
end Go.Am
namespace Go.Am
open Go.Proofs Crc
set_option maxRecDepth 100000
theorem n17 (G:Nat→List AV) (Q:Ex→List AV→Hp→Prop) (R:AV→Hp→Prop):vT G Q R (D0 (Dc Try.prog [40] [] [] 0) 100 10 Try.f17 [] [] 4)=(
  R (.ptr (.rw 0) (0)) [some ⟨1,([.int .i64 (0),.int .i64 (0),.int .i64 (0),.int .i64 (0),.bool (false),.int .i64 (0),.int .i64 (1),.int .i64 (0),.int .i64 (1),.int .i64 (0),.bool (false),.int .i64 (0),.int .i64 (0),.int .i64 (0),.int .i64 (0),.int .i64 (0),.bool (false),.int .i64 (0),.int .i64 (0),.int .i64 (0),.int .i64 (0),.int .i64 (0),.bool (false),.int .i64 (0),.int .i64 (0),.int .i64 (0),.int .i64 (0),.int .i64 (0),.bool (false),.int .i64 (0),.int .i64 (0),.int .i64 (0),.int .i64 (0),.int .i64 (0),.bool (false),.int .i64 (0),.int .i64 (0),.int .i64 (0),.int .i64 (0),.int .i64 (0),.bool (false),.int .i64 (0),.int .i64 (0),.int .i64 (0),.int .i64 (0),.int .i64 (0),.bool (false),.int .i64 (0),.int .i64 (0),.int .i64 (0),.int .i64 (0),.int .i64 (0),.bool (false),.int .i64 (0),.int .i64 (0),.int .i64 (0),.int .i64 (0),.int .i64 (0),.bool (false),.int .i64 (0),.int .i64 (0),.int .i64 (0),.int .i64 (0),.int .i64 (0),.bool (false),.int .i64 (0),.int .i64 (0),.int .i64 (0),.int .i64 (0),.int .i64 (0),.bool (false),.int .i64 (0),.int .i64 (0),.int .i64 (0),.int .i64 (0),.int .i64 (0),.bool (false),.int .i64 (0),.nilp,.ptr (.rw 1) (0),.nilp,.nilp,.nilp,.nilp,.nilp,.nilp,.nilp,.nilp,.nilp,.nilp,.nilp]:List AV)⟩,some ⟨1,([.bool (false),.bool (false),.bool (false),.bool (false),.bool (false),.bool (false),.bool (false),.bool (false),.bool (false),.bool (false),.bool (false),.bool (false),.bool (false),.bool (false),.bool (false),.bool (false),.bool (false),.bool (false),.bool (false),.bool (false),.bool (false),.bool (false),.bool (false),.bool (false),.bool (false),.bool (false),.bool (false),.bool (false),.bool (false),.bool (false),.bool (false),.bool (false),.int .u32 (0),.int .u32 (0),.int .u32 (0),.int .u32 (0),.int .u32 (0),.int .u32 (0),.int .u32 (0),.int .u32 (0),.int .u32 (0),.int .u32 (0),.int .u32 (0),.int .u32 (0),.int .u32 (0),.int .u32 (0),.int .u32 (0),.int .u32 (0)]:List AV)⟩]):=by kernel_rfl
theorem xH:C8 0 [.ptr (.rw 0) 0] (B0 tsR new0) [.ptr (.rw 0) 0] ([some (⟨1,C3 (fun n=>if n=1 then .ptr (.rw 1) 0 else .nilp) new0⟩:Blk),some ⟨1,encR Yb⟩]++List.replicate 12 (some ⟨1,[]⟩)):=by
 refine C8.renM (θ:=[0,2,1,3,4,5,6,7,8,9,10,11,12,13]) (Nat.zero_le _) (fun i hi=>by omega) (by decide) ?_ rfl ⟨rfl,trivial⟩;exact ⟨⟨rfl,rfl⟩,⟨rfl,rfl⟩,⟨rfl,rfl⟩,⟨rfl,rfl⟩,⟨rfl,rfl⟩,⟨rfl,rfl⟩,⟨rfl,rfl⟩,⟨rfl,rfl⟩,⟨rfl,rfl⟩,⟨rfl,rfl⟩,⟨rfl,rfl⟩,⟨rfl,rfl⟩,⟨rfl,rfl⟩,⟨rfl,rfl⟩,trivial⟩
theorem r_new (G:Nat→List AV) (B:Nat):ACalls (⟨Try.prog,G,B⟩:A3) 17 [] [] fun v H'=>v=.ptr (.rw 0) 0∧H'=B0 tsR new0:=by
 have h:=D3 (C:=(⟨Try.prog,G,B⟩:A3)) (f:=17) (args:=[]) (H:=[]) (keep:=4) (R:=fun v H'=>v=.ptr (.rw 0) 0∧H'=[some (⟨1,C3 (fun n=>if n=1 then .ptr (.rw 1) 0 else .nilp) new0⟩:Blk),some ⟨1,encR Yb⟩]) (dgood (inl:=[40]) (sums:=[]) (ls:=[]) (M:=0) (cs:=[]) (mix G B) (by kernel_rfl) .nil .nil) (by kernel_rfl) (by kernel_rfl) (by kernel_rfl) (fuel:=100) (n0:=10) (by rw [n17];exact ⟨rfl,rfl⟩);have h:=h.keep (Nat.zero_le _) rfl rfl (by simp);have h:=ACalls.pads (v0:=.ptr (.rw 0) 0) (fun k=>show Pn k (.ptr (.rw 0) 0) (.ptr (.rw 0) 0) from .inl rfl) 12 h
 exact h.view fun v H' ⟨e1,e2⟩=>⟨.ptr (.rw 0) 0,B0 tsR new0,⟨rfl,rfl⟩,by rw [e1,e2];exact xH⟩
end Go.Am
namespace Go.Am
open Go.Proofs Crc
variable {C:A3}
def preQ (tg:Nat) (pre:List AV→Bool) (S:DSum):DSum:=fun args H=>match S args H with
 | some o=>some (.chk (.uf tg pre [.agg (.of args)]) o)
 | none=>none
def Iu:List AV→Bool:=fun vs=>match vs with
 | [.agg [_,_,.int _ to,_]]=>decide (-9223372036854775808≤to)
 | _=>false
theorem tV (v w:AV) (l:List AV):Iu [.agg (v::l)]=Iu [.agg (w::l)]:=by
 rcases l with _ | ⟨x,_ | ⟨y,_ | ⟨z,_ | ⟨a,l⟩⟩⟩⟩
 ·rfl
 ·rfl
 ·cases y<;>rfl
 ·cases y<;>rfl
 ·cases y<;>rfl
theorem killR_ok {tg:Nat} {t:TS} (ht:O7 t) {f:FuncId} {m:Th} {j:Nat}
  (h:∀ s,Wf s→∀ n a b:Int,-9223372036854775808≤a→ACalls C f [.ptr (.rw 0) 0,.int .i64 n,.int .i64 a,.int .i64 b] (B0 t s) fun v H'=>v=.int .i64 (R0 s n a b)∧H'=Y6 t m (L5 s n a b)) (hm:m≠.same):G0 C f (preQ j Iu (mU tg t m killK)):=by
 intro args H o ho;unfold preQ at ho;split at ho
 ·rename_i o' ho';simp only [Option.some.injEq] at ho;subst ho;intro h1
  let k':EL→List EV→Option (EV×EL):=fun x rest=>match Iu [.agg (.undef::vVs C.G rest)] with
   | true=>killK x rest
   | false=>none
  have hk:G0 C f (mU tg t m k'):=objS_ok ht (by
   intro x rest v x' s hk hx hw;simp only [k'] at hk;split at hk
   ·rename_i hp;unfold killK at hk;split at hk
    ·rename_i n a b;simp only [Option.some.injEq,Prod.mk.injEq] at hk;obtain ⟨rfl,rfl⟩:=hk;refine ⟨by simp [vVs,vV,A8,bnd],by simp [vV,bnd],L5 s (vI C.G n) (vI C.G a) (vI C.G b),by simp only [vL,vVs,vV,hx,Ob hw.thin],(hw.killX _ _ _).thin,fun e=>absurd e hm,?_⟩;simp only [vVs,vV,vI,hx,fI hw.thin];exact h s hw _ _ _ (of_decide_eq_true hp)
    ·simp at hk
   ·cases hk)
  refine hk args H o' ?_;have h1:Iu [.agg (vVs C.G args)]=true:=h1;unfold mU Y5 at ho' ⊢;split at ho'
  ·rename_i i rest _
   have hp:Iu [.agg (.undef::vVs C.G rest)]=true:=by
    rw [tV .undef (vV C.G (.ptr (.rw i) (.lit 0)))];exact h1
   have ek:∀ x,k' x rest=killK x rest:=fun x=>by simp only [k',hp]
   simp only [ek];exact ho'
  ·cases ho'
 ·cases ho
def Cd (b:Nat) (x:EL):DHp:=some (Tq 2251 tsR b x)::(Ax 2251 tsR x).map some
def U5 (b:Int) (x:List AV):List AV:=[.int .i64 b,.agg x,.tup (.agg (I3 tsR [.int .i64 b,.agg x])::(List.range 13).map fun n=>.agg (A7 tsR n [.agg x]))]
theorem If {s:Ptb} (hs:U7 s) (b:Nat):D1 b (encX s)=P8 tsR (B3 b s) s s:=by
 unfold D1 Id P8 L7;simp only [I3,A7,C7 hs,Int.toNat_natCast]
theorem aZ {s:Ptb} (hw:Wf s) (b:Nat):F6 tsR [.int .i64 (b:Int),.agg (encX s),.tup (.agg (I3 tsR [.int .i64 (b:Int),.agg (encX s)])::(List.range 13).map fun n=>.agg (A7 tsR n [.agg (encX s)]))]=true:=by
 refine Q9.2 ⟨s,hw,rfl,?_⟩;simp only [I3,A7,C7 hw.thin]
def doQ (ok okr:List AV→Bool):List (Nat×DSum):=[(26,Y5 2101 ok tsP .move forkK),(27,Y5 2101 ok tsP .move endK),(28,Y5 2101 ok tsP .stay groupK),(32,Y5 2101 ok tsP .stay userK),(21,Y5 2101 ok tsP .stay killK),(33,Y5 2101 ok tsP .move takeK),(13,Y5 2101 ok tsP .stay waitK),(47,Y5 2101 ok tsP .stay maskK),(49,Y5 2101 ok tsP .stay handK),(12,uK 2101 ok tsP),(15,sU 2101 ok),
 (41,Y5 2251 okr tsR .move forkK),(42,Y5 2251 okr tsR .move endK),(44,Y5 2251 okr tsR .stay groupK),(45,Y5 2251 okr tsR .stay userK),(46,preQ 2471 Iu (Y5 2251 okr tsR .stay killK)),(51,Y5 2251 okr tsR .move takeK),(43,Y5 2251 okr tsR .stay waitK),(48,Y5 2251 okr tsR .stay maskK),(50,Y5 2251 okr tsR .stay handK)]
end Go.Am
namespace Go.Am
open Go.Proofs Crc
set_option maxRecDepth 100000
theorem do_t (G:Nat→List AV) (okP1 okR1:List AV→Bool) (x:List AV) (a0 a1 a2 a3:Int) (Q:Ex→List AV→Hp→Prop) (R:AV→Hp→Prop):vT G Q R (D0 (Dc Try.prog [14] (doQ okP1 okR1) [] 0) 900 20 Try.f18 [.ptr (.rw 0) (.lit 0),.ptr (.rw 14) (.lit 0),.agg (.of [.int .i64 (.var 10 a0),.int .i64 (.var 11 a1),.int .i64 (.var 12 a2),.int .i64 (.var 13 a3)])] (Ce 1 (.var 1 x)++Cd 15 (.var 1 x)) 200)=(
  (((a0:Int)==1)=true→(okP1) (W9 (1) x)=true∧(okR1) (U5 (15) x)=true∧(((C2 uE) [.agg x,.int .i64 (a1)]:Int)==(C2 uE) [.agg x,.int .i64 (a1)])=true∧R (.tup [.ptr (.rw 0) (0),.ptr (.rw 14) (0),.bool ((((C2 uD) [.agg x,.int .i64 (a1)]:Int)==(C2 uD) [.agg x,.int .i64 (a1)]))]) ([some ⟨1,((I3 tsP) [.int .i64 (29),.agg ((Im Dm) [.agg x,.int .i64 (a1)])])⟩,none,none,none,none,none,none,none,none,none,none,none,none,none,some ⟨1,((I3 tsR) [.int .i64 (42),.agg ((Im Dm) [.agg x,.int .i64 (a1)])])⟩,none,none,none,none,none,none,none,none,none,none,none,none,none,some ⟨1,([.int .i64 (a0),.int .i64 (a1),.int .i64 (a2),.int .i64 (a3)]:List AV)⟩]++(Ff ((Im Dm) [.agg x,.int .i64 (a1)])++Id ((Im Dm) [.agg x,.int .i64 (a1)]))))∧(((a0:Int)==1)=false→(((a0:Int)==2)=true→(okP1) (W9 (1) x)=true∧(okR1) (U5 (15) x)=true∧R (.tup [.ptr (.rw 0) (0),.ptr (.rw 14) (0),.bool ((((Gw endE) [.agg x,.int .i64 (a1),.int .i64 (a2)]:Int)==(Gw endE) [.agg x,.int .i64 (a1),.int .i64 (a2)]))]) ([some ⟨1,((I3 tsP) [.int .i64 (29),.agg ((T6 P6) [.agg x,.int .i64 (a1),.int .i64 (a2)])])⟩,none,none,none,none,none,none,none,none,none,none,none,none,none,some ⟨1,((I3 tsR) [.int .i64 (42),.agg ((T6 P6) [.agg x,.int .i64 (a1),.int .i64 (a2)])])⟩,none,none,none,none,none,none,none,none,none,none,none,none,none,some ⟨1,([.int .i64 (a0),.int .i64 (a1),.int .i64 (a2),.int .i64 (a3)]:List AV)⟩]++(Ff ((T6 P6) [.agg x,.int .i64 (a1),.int .i64 (a2)])++Id ((T6 P6) [.agg x,.int .i64 (a1),.int .i64 (a2)]))))∧(((a0:Int)==2)=false→(((a0:Int)==3)=true→(okP1) (W9 (1) x)=true∧(okR1) (U5 (15) x)=true∧(((Gw sF) [.agg x,.int .i64 (a1),.int .i64 (a2)]:Int)==(Gw sF) [.agg x,.int .i64 (a1),.int .i64 (a2)])=true∧
 (((Gw sE) [.agg x,.int .i64 (a1),.int .i64 (a2)]:Int)==(Gw sE) [.agg x,.int .i64 (a1),.int .i64 (a2)])=true∧((lD bZ) [.agg x,.int .i64 (a1),.int .i64 (a2)]=true→(lD bZ) [.agg x,.int .i64 (a1),.int .i64 (a2)]=true∧R (.tup [.ptr (.rw 0) (0),.ptr (.rw 14) (0),.bool ((((Gw cA) [.agg x,.int .i64 (a1),.int .i64 (a2)]:Int)==(Gw cA) [.agg x,.int .i64 (a1),.int .i64 (a2)]))]) (D2 (1) ((T6 Lk) [.agg x,.int .i64 (a1),.int .i64 (a2)])++(D1 (15) ((T6 Lk) [.agg x,.int .i64 (a1),.int .i64 (a2)])++[some ⟨1,([.int .i64 (a0),.int .i64 (a1),.int .i64 (a2),.int .i64 (a3)]:List AV)⟩])))∧((lD bZ) [.agg x,.int .i64 (a1),.int .i64 (a2)]=false→(!((lD bZ) [.agg x,.int .i64 (a1),.int .i64 (a2)]))=true∧R (.tup [.ptr (.rw 0) (0),.ptr (.rw 14) (0),.bool ((((Gw cA) [.agg x,.int .i64 (a1),.int .i64 (a2)]:Int)==(Gw cA) [.agg x,.int .i64 (a1),.int .i64 (a2)]))]) (D2 (1) ((T6 Lk) [.agg x,.int .i64 (a1),.int .i64 (a2)])++(D1 (15) ((T6 Lk) [.agg x,.int .i64 (a1),.int .i64 (a2)])++[some ⟨1,([.int .i64 (a0),.int .i64 (a1),.int .i64 (a2),.int .i64 (a3)]:List AV)⟩]))))∧(((a0:Int)==3)=false→(((a0:Int)==4)=true→(okP1) (W9 (1) x)=true∧(okR1) (U5 (15) x)=true∧R (.tup [.ptr (.rw 0) (0),.ptr (.rw 14) (0),.bool ((((Gw Bt) [.agg x,.int .i64 (a1),.int .i64 (a2)]:Int)==(Gw Bt) [.agg x,.int .i64 (a1),.int .i64 (a2)]))]) (D2 (1) ((T6 V5) [.agg x,.int .i64 (a1),.int .i64 (a2)])++(D1 (15) ((T6 V5) [.agg x,.int .i64 (a1),.int .i64 (a2)])++[some ⟨1,([.int .i64 (a0),.int .i64 (a1),.int .i64 (a2),.int .i64 (a3)]:List AV)⟩])))∧(((a0:Int)==4)=false→(((a0:Int)==5)=true→(okP1) (W9 (1) x)=true∧(okR1) (U5 (15) x)=true∧
 R (.tup [.ptr (.rw 0) (0),.ptr (.rw 14) (0),.bool ((((Gw Cz) [.agg x,.int .i64 (a1),.int .i64 (a2)]:Int)==(Gw Cz) [.agg x,.int .i64 (a1),.int .i64 (a2)]))]) (D2 (1) ((T6 Y7) [.agg x,.int .i64 (a1),.int .i64 (a2)])++(D1 (15) ((T6 Y7) [.agg x,.int .i64 (a1),.int .i64 (a2)])++[some ⟨1,([.int .i64 (a0),.int .i64 (a1),.int .i64 (a2),.int .i64 (a3)]:List AV)⟩])))∧(((a0:Int)==5)=false→(((a0:Int)==6)=true→(okP1) (W9 (1) x)=true∧(Iu) [.agg ([.ptr (.rw 14) (0),.int .i64 (a1),.int .i64 (a2),.int .i64 (a3)]:List AV)]=true∧(okR1) (U5 (15) x)=true∧R (.tup [.ptr (.rw 0) (0),.ptr (.rw 14) (0),.bool ((((Vw R0) [.agg x,.int .i64 (a1),.int .i64 (a2),.int .i64 (a3)]:Int)==(Vw R0) [.agg x,.int .i64 (a1),.int .i64 (a2),.int .i64 (a3)]))]) (D2 (1) ((Vv L5) [.agg x,.int .i64 (a1),.int .i64 (a2),.int .i64 (a3)])++(D1 (15) ((Vv L5) [.agg x,.int .i64 (a1),.int .i64 (a2),.int .i64 (a3)])++[some ⟨1,([.int .i64 (a0),.int .i64 (a1),.int .i64 (a2),.int .i64 (a3)]:List AV)⟩])))∧(((a0:Int)==6)=false→(((a0:Int)==7)=true→(okP1) (W9 (1) x)=true∧(okR1) (U5 (15) x)=true∧(((C2 Lu) [.agg x,.int .i64 (a1)]:Int)==(C2 Lu) [.agg x,.int .i64 (a1)])=true∧R (.tup [.ptr (.rw 0) (0),.ptr (.rw 14) (0),.bool ((((C2 Rt) [.agg x,.int .i64 (a1)]:Int)==(C2 Rt) [.agg x,.int .i64 (a1)]))]) (D2 (1) ((T6 Em) [.agg x,.int .i64 (a1),.int .i64 (a2)])++(D1 (15) ((T6 Em) [.agg x,.int .i64 (a1),.int .i64 (a2)])++[some ⟨1,([.int .i64 (a0),.int .i64 (a1),.int .i64 (a2),.int .i64 (a3)]:List AV)⟩])))∧(((a0:Int)==7)=false→(((a0:Int)==8)=true→(okP1) (W9 (1) x)=true∧(okR1) (U5 (15) x)=true∧(((Vw Ep) [.agg x,.int .i64 (a1),.int .i64 (a2),.int .i64 (a3)]:Int)==(Vw Ep) [.agg x,.int .i64 (a1),.int .i64 (a2),.int .i64 (a3)])=true∧
 R (.tup [.ptr (.rw 0) (0),.ptr (.rw 14) (0),.bool ((((Vw Er) [.agg x,.int .i64 (a1),.int .i64 (a2),.int .i64 (a3)]:Int)==(Vw Er) [.agg x,.int .i64 (a1),.int .i64 (a2),.int .i64 (a3)]))]) (D2 (1) ((Vv Az) [.agg x,.int .i64 (a1),.int .i64 (a2),.int .i64 (a3)])++(D1 (15) ((Vv Az) [.agg x,.int .i64 (a1),.int .i64 (a2),.int .i64 (a3)])++[some ⟨1,([.int .i64 (a0),.int .i64 (a1),.int .i64 (a2),.int .i64 (a3)]:List AV)⟩])))∧(((a0:Int)==8)=false→(((a0:Int)==9)=true→(okP1) (W9 (1) x)=true∧(okR1) (U5 (15) x)=true∧(((C2 Hr) [.agg x,.int .i64 (a1)]:Int)==(C2 Hr) [.agg x,.int .i64 (a1)])=true∧((E9 Ef) [.agg x,.int .i64 (a1)]=true→(E9 Ef) [.agg x,.int .i64 (a1)]=true∧(((C2 Eg) [.agg x,.int .i64 (a1)]:Int)==(C2 Eg) [.agg x,.int .i64 (a1)])=true∧R (.tup [.ptr (.rw 0) (0),.ptr (.rw 14) (0),.bool ((((E9 Ln) [.agg x,.int .i64 (a1)]:Bool)==(E9 Ln) [.agg x,.int .i64 (a1)]))]) ([some ⟨1,((I3 tsP) [.int .i64 (29),.agg ((Im I7) [.agg x,.int .i64 (a1)])])⟩,none,none,none,none,none,none,none,none,none,none,none,none,none,some ⟨1,((I3 tsR) [.int .i64 (43),.agg ((Im I7) [.agg x,.int .i64 (a1)])])⟩,none,none,none,none,none,none,none,none,none,none,none,none,none,some ⟨1,([.int .i64 (a0),.int .i64 (a1),.int .i64 (a2),.int .i64 (a3)]:List AV)⟩]++(Ff ((Im I7) [.agg x,.int .i64 (a1)])++([some ⟨1,([.int .i64 ((C2 Hr) [.agg x,.int .i64 (a1)]),.bool ((E9 Ef) [.agg x,.int .i64 (a1)]),.int .u32 ((C2 Eg) [.agg x,.int .i64 (a1)])]:List AV)⟩]++(Id ((Im I7) [.agg x,.int .i64 (a1)])++[some ⟨1,([.int .i64 ((C2 Hr) [.agg x,.int .i64 (a1)]),.bool ((E9 Ef) [.agg x,.int .i64 (a1)]),.int .u32 ((C2 Eg) [.agg x,.int .i64 (a1)])]:List AV)⟩])))))∧((E9 Ef) [.agg x,.int .i64 (a1)]=false→
 (!((E9 Ef) [.agg x,.int .i64 (a1)]))=true∧(((C2 Eg) [.agg x,.int .i64 (a1)]:Int)==(C2 Eg) [.agg x,.int .i64 (a1)])=true∧R (.tup [.ptr (.rw 0) (0),.ptr (.rw 14) (0),.bool ((((E9 Ln) [.agg x,.int .i64 (a1)]:Bool)==(E9 Ln) [.agg x,.int .i64 (a1)]))]) ([some ⟨1,((I3 tsP) [.int .i64 (29),.agg ((Im I7) [.agg x,.int .i64 (a1)])])⟩,none,none,none,none,none,none,none,none,none,none,none,none,none,some ⟨1,((I3 tsR) [.int .i64 (43),.agg ((Im I7) [.agg x,.int .i64 (a1)])])⟩,none,none,none,none,none,none,none,none,none,none,none,none,none,some ⟨1,([.int .i64 (a0),.int .i64 (a1),.int .i64 (a2),.int .i64 (a3)]:List AV)⟩]++(Ff ((Im I7) [.agg x,.int .i64 (a1)])++([some ⟨1,([.int .i64 ((C2 Hr) [.agg x,.int .i64 (a1)]),.bool ((E9 Ef) [.agg x,.int .i64 (a1)]),.int .u32 ((C2 Eg) [.agg x,.int .i64 (a1)])]:List AV)⟩]++(Id ((Im I7) [.agg x,.int .i64 (a1)])++[some ⟨1,([.int .i64 ((C2 Hr) [.agg x,.int .i64 (a1)]),.bool ((E9 Ef) [.agg x,.int .i64 (a1)]),.int .u32 ((C2 Eg) [.agg x,.int .i64 (a1)])]:List AV)⟩]))))))∧(((a0:Int)==9)=false→(((a0:Int)==10)=true→(okP1) (W9 (1) x)=true∧(okP1) (W9 (30) x)=true∧(okP1) (W9 (1) x)=true∧(okP1) (W9 (1) x)=true∧(okP1) (W9 (43) ((Im Dm) [.agg x,.int .i64 (1)]))=true∧(okP1) (W9 (43) ((Vv L5) [.agg ((Im Dm) [.agg x,.int .i64 (1)]),.int .i64 (1),.int .i64 (1),.int .i64 (1)]))=true∧
 R (.tup [.ptr (.rw 29) (0),.ptr (.rw 14) (0),.bool ((cL) [.agg x,.agg x])]) ([some ⟨1,((I3 tsP) [.int .i64 (56),.agg ((T6 P6) [.agg ((Vv L5) [.agg ((Im Dm) [.agg x,.int .i64 (1)]),.int .i64 (1),.int .i64 (1),.int .i64 (1)]),.int .i64 (2),.int .i64 (9)])])⟩,none,none,none,none,none,none,none,none,none,none,none,none,none]++(D1 (15) x++([some ⟨1,([.int .i64 (a0),.int .i64 (a1),.int .i64 (a2),.int .i64 (a3)]:List AV)⟩]++(D2 (30) x++([none,none,none,none,none,none,none,none,none,none,none,none,none]++Ff ((T6 P6) [.agg ((Vv L5) [.agg ((Im Dm) [.agg x,.int .i64 (1)]),.int .i64 (1),.int .i64 (1),.int .i64 (1)]),.int .i64 (2),.int .i64 (9)])))))))∧(((a0:Int)==10)=false→R (.tup [.ptr (.rw 0) (0),.ptr (.rw 14) (0),.bool (true)]) (D2 (1) x++(D1 (15) x++[some ⟨1,([.int .i64 (a0),.int .i64 (a1),.int .i64 (a2),.int .i64 (a3)]:List AV)⟩]))))))))))))):=by kernel_rfl
end Go.Am
namespace Go.Am
open Crc
variable {C:A3}
structure Tj (t:TS) (s:Ptb) (i b:Nat) (H:Hp):Prop where
 tab:H[i]?=some (some ⟨1,t.tb (B3 b s) s⟩)
 sets:∀ n,n<13→H[b+n]?=some (some ⟨1,I4 t.enc (s.sg n)⟩)
theorem Tj.more {t:TS} {s:Ptb} {i b k:Nat} {H:Hp} (h:Tj t s i b (H.take k)):Tj t s i b H:=by
 have g:∀ {i:Nat} {b},(H.take k)[i]?=some b→H[i]?=some b:=fun {i b} hb=>by
  rw [List.getElem?_take] at hb;split at hb
  ·exact hb
  ·cases hb
 exact ⟨g h.tab,fun n hn=>g (h.sets n hn)⟩
theorem Tj.word {t:TS} {s:Ptb} {i b:Nat} {H:Hp} {X:List AV} (hX:X=encX s) (hs:U7 s) (h0:H[i]?=some (some ⟨1,I3 t [.int .i64 (b:Int),.agg X]⟩)) (h1:∀ n,n<13→H[b+n]?=some (some ⟨1,A7 t n [.agg X]⟩)):Tj t s i b H:=by
 subst hX;refine ⟨?_,fun n hn=>?_⟩
 ·rw [h0];simp only [I3,C7 hs,Int.toNat_natCast]
 ·rw [h1 n hn];simp only [A7,C7 hs]
def J1:Nat→List (TS×Ptb)→Hp
 | _,[]=>[]
 | L,o::os=>P8 o.1 (B3 (L+1) o.2) o.2 o.2++J1 (L+14) os
theorem Ie:∀ (os:List (TS×Ptb)) (L:Nat),(J1 L os).length=14*os.length
 | [],L=>rfl
 | o::os,L=>by simp only [J1,List.length_append,Cg,Ie os,List.length_cons];omega
def L9:List (Nat×Nat)→List Nat
 | []=>[]
 | p::pl=>B7 p.1 p.2++L9 pl
theorem Mt:∀ pl:List (Nat×Nat),(L9 pl).length=14*pl.length
 | []=>rfl
 | p::pl=>by simp only [L9,List.length_append,B5,Mt pl,List.length_cons];omega
def Xw:List (TS×Ptb)→List (Nat×Nat)→Hp→Prop
 | [],[],_=>True
 | o::os,p::pl,H=>O7 o.1∧Tj o.1 o.2 p.1 p.2 H∧Xw os pl H
 | _,_,_=>False
theorem Xw.len:∀ {os:List (TS×Ptb)} {pl:List (Nat×Nat)} {H:Hp},Xw os pl H→os.length=pl.length
 | [],[],_,_=>rfl
 | _::os,_::pl,H,h=>by simp only [List.length_cons,Xw.len (os:=os) (pl:=pl) h.2.2]
 | [],_::_,_,h=>h.elim
 | _::_,[],_,h=>h.elim
theorem Xw.lt:∀ {os:List (TS×Ptb)} {pl:List (Nat×Nat)} {H:Hp},Xw os pl H→∀ j∈L9 pl,j<H.length
 | [],[],_,_=>fun j h=>by simp [L9] at h
 | o::os,p::pl,H,h=>fun j hj=>by
  simp only [L9,List.mem_append] at hj;rcases hj with hj | hj
  ·unfold B7 at hj;rcases List.mem_cons.1 hj with rfl | hj
   ·exact (List.getElem?_eq_some_iff.1 h.2.1.tab).1
   ·obtain ⟨n,hn,rfl⟩:=List.mem_map.1 hj;exact (List.getElem?_eq_some_iff.1 (h.2.1.sets n (List.mem_range.1 hn))).1
  ·exact Xw.lt h.2.2 j hj
 | [],_::_,_,h=>h.elim
 | _::_,[],_,h=>h.elim
theorem Uc {θ:List Nat} {H:Hp}:∀ {os:List (TS×Ptb)} {pl:List (Nat×Nat)} {L:Nat},Xw os pl H→(∀ k,k<14*os.length→θ.getD (L+k) 0=(L9 pl).getD k 0)→L+14*os.length≤θ.length→
  ∀ (k:Nat) b,(J1 L os)[k]?=some b→∃ b0,b=some b0∧H[(L9 pl).getD k 0]?=some (some (F9 θ b0))∧A8 θ.length b0.cells=true∧isRec b0=false
 | [],[],L,_,_,_=>fun k b hb=>by simp [J1] at hb
 | o::os,p::pl,L,h,hθ,hl=>fun k b hb=>by
  obtain ⟨ht,hA,hr⟩:=h;simp only [List.length_cons] at hθ hl;simp only [J1] at hb
  have hi:θ.getD L 0=p.1:=by
   have:=hθ 0 (by omega)
   simpa [L9,B7] using this
  have hs:∀ n,n<13→θ.getD (L+1+n) 0=p.2+n:=fun n hn=>by
   have:=hθ (1+n) (by omega)
   rw [show L+1+n=L+(1+n) by omega,this];simp only [L9,List.getD];rw [List.getElem?_append_left (by rw [B5];omega)];exact Dy hn
  by_cases hk:k<14
  ·rw [List.getElem?_append_left (by rw [Cg];exact hk)] at hb
   have eg:(L9 (p::pl)).getD k 0=(B7 p.1 p.2).getD k 0:=by
    simp only [L9,List.getD];rw [List.getElem?_append_left (by rw [B5];exact hk)]
   rw [eg];cases k with
   | zero=>
    rw [jN] at hb;simp only [Option.some.injEq] at hb;subst hb;refine ⟨_,rfl,?_,ht.bnd _ (B3 (L+1) o.2) o.2 fun n hn=>Bx (by omega),rfl⟩;show H[p.1]?=_;rw [hA.tab];simp only [F9];rw [X4 ht (b:=L+1) (b':=p.2) hs]
   | succ n=>
    rw [Do (by omega)] at hb;simp only [Option.some.injEq] at hb;subst hb;refine ⟨_,rfl,?_,Au ht _ _,rfl⟩;rw [show n+1=1+n by omega,Dy (by omega),hA.sets n (by omega)];simp only [F9,Y8 ht]
  ·obtain ⟨k,rfl⟩:∃ k',k=14+k':=⟨k - 14,by omega⟩;rw [List.getElem?_append_right (by rw [Cg];omega),Cg,Nat.add_sub_cancel_left] at hb
   have eg:∀ k,(L9 (p::pl)).getD (14+k) 0=(L9 pl).getD k 0:=fun k=>by
    simp only [L9,List.getD];rw [List.getElem?_append_right (by rw [B5];omega),B5,Nat.add_sub_cancel_left]
   rw [eg];refine Uc (L:=L+14) hr (fun k hk=>?_) (by omega) k b hb
   have:=hθ (14+k) (by omega)
   rw [eg] at this;rw [←this];congr 1;omega
 | [],_::_,_,h,_,_=>h.elim
 | _::_,[],_,h,_,_=>h.elim
theorem C8.objs {m:Nat} {F F':Fr} {os:List (TS×Ptb)} {pl:List (Nat×Nat)} {H':Hp} (hm:m≤H'.length) (hp:Xw os pl H') (nd:Jn (L9 pl)=true) (hF:A8 (m+14*os.length) F=true) (hF':wk (rens (List.range m++L9 pl) F) F') :
  C8 m F (List.replicate m none++Go.Am.J1 m os) F' H':=by
 have nd:=Mo nd;have hlen:=hp.len;have lθ:(List.range m++L9 pl).length=m+14*os.length:=by rw [List.length_append,List.length_range,Mt,hlen]
 have lH:(List.replicate m none++Go.Am.J1 m os).length=m+14*os.length:=by rw [List.length_append,List.length_replicate,Ie]
 have lo:∀ i,i<m→(List.range m++L9 pl).getD i 0=i:=fun i hi=>by
  simp only [List.getD];rw [List.getElem?_append_left (by simpa using hi)];simp [hi]
 have up:∀ k,(List.range m++L9 pl).getD (m+k) 0=(L9 pl).getD k 0:=fun k=>by
  simp only [List.getD];rw [List.getElem?_append_right (by simp),List.length_range,Nat.add_sub_cancel_left]
 have lv:∀ (i:Nat) b,(List.replicate m none++Go.Am.J1 m os)[i]?=some (some b)→∃ k,i=m+k∧k<14*os.length∧(Go.Am.J1 m os)[k]?=some (some b):=fun i b hb=>by
  have hi:=(List.getElem?_eq_some_iff.1 hb).1;rw [lH] at hi;by_cases h:i<m
  ·rw [List.getElem?_append_left (by simpa using h),List.getElem?_replicate,if_pos h] at hb;cases hb
  ·rw [List.getElem?_append_right (by simp;omega),List.length_replicate] at hb;exact ⟨i - m,by omega,by omega,hb⟩
 refine ⟨List.range m++L9 pl,by rw [lθ,lH],by rw [lH];omega,lo,fun i hi=>?_,fun i j b b' h1 h2 he=>?_,fun i b hb=>?_,by rw [←Qh hF',G6];simp,fun k v hk=>?_⟩
 ·rw [lθ] at hi;by_cases h:i<m
  ·rw [lo i h];omega
  ·obtain ⟨k,rfl⟩:∃ k,i=m+k:=⟨i - m,by omega⟩;rw [up];refine hp.lt _ ?_;have hk:k<(L9 pl).length:=by rw [Mt,←hlen];omega
   simp only [List.getD,List.getElem?_eq_getElem hk,Option.getD_some];exact List.getElem_mem hk
 ·obtain ⟨k,rfl,hk,_⟩:=lv i b h1;obtain ⟨k',rfl,hk',_⟩:=lv j b' h2;rw [up,up] at he;have a1:k<(L9 pl).length:=by rw [Mt,←hlen];exact hk
  have a2:k'<(L9 pl).length:=by rw [Mt,←hlen];exact hk'
  simp only [List.getD,List.getElem?_eq_getElem a1,List.getElem?_eq_getElem a2,Option.getD_some] at he
  have:=(List.getElem_inj nd).1 he
  omega
 ·obtain ⟨k,rfl,hk,hb'⟩:=lv i b hb;rw [up];obtain ⟨b0,e,g1,g2,g3⟩:=Uc (θ:=List.range m++L9 pl) hp (fun k _=>up k) (by rw [lθ];omega) k _ hb';simp only [Option.some.injEq] at e;subst e;refine ⟨_,g1,by simp [F9,G6],Cv rfl g3 fun k v hk=>?_⟩;rw [I1,List.all_eq_true] at g2;exact ⟨g2 v (List.mem_of_getElem? hk),by simp only [F9,G6,List.getElem?_map,hk,Option.map_some]⟩
 ·rw [I1,List.all_eq_true] at hF;refine ⟨by rw [lθ];exact hF v (List.mem_of_getElem? hk),?_⟩;rcases Rz hF' k (Go.Am.ren (List.range m++L9 pl) v) (by rw [G6];simp [hk]) with h | h
  ·left;cases v with
   | undef=>rfl
   | ptr r o=>cases r<;>simp [Go.Am.ren] at h
   | slice m r o n=>cases r<;>simp [Go.Am.ren] at h
   | _=>simp [Go.Am.ren] at h
  ·exact .inr h
end Go.Am
namespace Go.Am
open Go.Proofs Crc
set_option maxRecDepth 100000
set_option maxHeartbeats 1000000
theorem doQ_ok (G:Nat→List AV) (B:Nat):T4 (⟨Try.prog,G,B⟩:A3) (doQ (F6 tsP) (F6 tsR)):=
 .cons (objS_ok tsP_ok (forkK_ok (fun s hw n=>p_fork G B hw n) (by simp)))<|.cons (objS_ok tsP_ok (endK_ok (fun s hw n a=>p_end G B hw n a) (by simp))) <|
 .cons (objS_ok tsP_ok (groupK_ok (fun s hw n a=>aQ4 G B n a) (by simp)))<|.cons (objS_ok tsP_ok (userK_ok (fun s hw n a=>p_user G B n a) (by simp))) <|
 .cons (objS_ok tsP_ok (killK_ok (fun s hw n a b=>p_kill G B hw n a b) (by simp)))<|.cons (objS_ok tsP_ok (takeK_ok (fun s hw n=>aP8 G B hw n) (by simp))) <|
 .cons (objS_ok tsP_ok (waitK_ok (fun s hw n a=>p_wait G B hw n a) (by simp)))<|.cons (objS_ok tsP_ok (maskK_ok (fun s hw n a=>aQ1 G B hw n a) (by simp))) <|
 .cons (objS_ok tsP_ok (handK_ok (fun s hw n a b=>xB G B hw n a b) (by simp))) <|
 .cons (copyQ_ok tsP_ok (fun s hw=>aQ5 G B hw))<|.cons (sameQ_ok tsP_ok (fun s s' _ _=>aP9 G B s s')) <|
 .cons (objS_ok tsR_ok (forkK_ok (fun s hw n=>r_fork G B hw n) (by simp)))<|.cons (objS_ok tsR_ok (endK_ok (fun s hw n a=>r_end G B hw n a) (by simp))) <|
 .cons (objS_ok tsR_ok (groupK_ok (fun s hw n a=>aP0 G B n a) (by simp)))<|.cons (objS_ok tsR_ok (userK_ok (fun s hw n a=>r_user G B n a) (by simp))) <|
 .cons (killR_ok tsR_ok (fun s hw n a b h=>r_kill G B hw n a b h) (by simp))<|.cons (objS_ok tsR_ok (takeK_ok (fun s hw n=>aO3 G B hw n) (by simp))) <|
 .cons (objS_ok tsR_ok (waitK_ok (fun s hw n a=>r_wait G B hw n a) (by simp)))<|.cons (objS_ok tsR_ok (maskK_ok (fun s hw n a=>aO7 G B hw n a) (by simp))) <|
 .cons (objS_ok tsR_ok (handK_ok (fun s hw n a b=>wO G B hw n a b) (by simp))) .nil
def R5 (s:Ptb) (c p a b:Int):Ptb:=
 if c=1 then Dm s p else if c=2 then P6 s p a else if c=3 then Lk s p a else if c=4 then V5 s p a else if c=5 then Y7 s p a else
 if c=6 then L5 s p a b else if c=7 then Em s p a else if c=8 then Az s p a b else if c=9 then I7 s p else s
theorem Wf.stepX {s:Ptb} (h:Wf s) (c p a b:Int):Wf (R5 s c p a b):=by
 unfold Go.Am.R5;split
 ·exact h.forkR _
 split
 ·exact h.endR _ _
 split
 ·exact h.waitX _ _
 split
 ·exact h.groupX _ _
 split
 ·exact h.userX _ _
 split
 ·exact h.killX _ _ _
 split
 ·exact h.maskX _ _
 split
 ·exact h.handX _ _ _
 split
 ·exact h.takeX _
 ·exact h
def DoR (s:Ptb) (v:AV) (H:Hp):Prop:=∃ i b j c,v=.tup [.ptr (.rw i) 0,.ptr (.rw j) 0,.bool true]∧Tj tsP s i b H∧Tj tsR s j c H∧Jn (L9 [(i,b),(j,c)])=true∧28≤H.length
theorem Yv {s s':Ptb} {X:List AV} {H:Hp} {i b j c:Nat} {ok:Bool} (e:s=s') (hX:X=encX s) (hs:Wf s) (hb:ok=true) (h0:H[i]?=some (some ⟨1,I3 tsP [.int .i64 (b:Int),.agg X]⟩)) (h1:∀ n,n<13→H[b+n]?=some (some ⟨1,A7 tsP n [.agg X]⟩))
  (h2:H[j]?=some (some ⟨1,I3 tsR [.int .i64 (c:Int),.agg X]⟩)) (h3:∀ n,n<13→H[c+n]?=some (some ⟨1,A7 tsR n [.agg X]⟩)) (nd:Jn (L9 [(i,b),(j,c)])=true) (hl:28≤H.length):DoR s' (.tup [.ptr (.rw i) 0,.ptr (.rw j) 0,.bool ok]) H:=by
 subst e;exact ⟨i,b,j,c,by rw [hb],Tj.word hX hs.thin h0 h1,Tj.word hX hs.thin h2 h3,nd,hl⟩
theorem Qt {P:Nat→Prop} (h:P 0∧P 1∧P 2∧P 3∧P 4∧P 5∧P 6∧P 7∧P 8∧P 9∧P 10∧P 11∧P 12):∀ n,n<13→P n:=fun n hn=>by
 obtain ⟨h0,h1,h2,h3,h4,h5,h6,h7,h8,h9,h10,h11,h12⟩:=h
 match n,hn with
 | 0,_=>exact h0
 | 1,_=>exact h1
 | 2,_=>exact h2
 | 3,_=>exact h3
 | 4,_=>exact h4
 | 5,_=>exact h5
 | 6,_=>exact h6
 | 7,_=>exact h7
 | 8,_=>exact h8
 | 9,_=>exact h9
 | 10,_=>exact h10
 | 11,_=>exact h11
 | 12,_=>exact h12
theorem Ip {s s':Ptb} {X:List AV} {E:Hp} {ok:Bool} (e:s=s') (hX:X=encX s) (hs:Wf s) (hb:ok=true):DoR s' (.tup [.ptr (.rw 0) 0,.ptr (.rw 14) 0,.bool ok]) (D2 1 X++(D1 15 X++E)):=by
 exact Yv (i:=0) (b:=1) (j:=14) (c:=15) e hX hs hb rfl (Qt ⟨rfl,rfl,rfl,rfl,rfl,rfl,rfl,rfl,rfl,rfl,rfl,rfl,rfl⟩) rfl (Qt ⟨rfl,rfl,rfl,rfl,rfl,rfl,rfl,rfl,rfl,rfl,rfl,rfl,rfl⟩) (by decide) (by simp [D2,D1,Ff,Id];omega)
theorem sT (s:Ptb):Ay s s=true:=by
 unfold Ay;rw [List.all_eq_true];intro n _;rw [Bool.and_eq_true];refine ⟨by simp [pcB],?_⟩;cases s.sg n with
 | none=>rfl
 | some p=>exact aF p
theorem do_run (G:Nat→List AV) (B:Nat) {s:Ptb} (hw:Wf s) (c p a b:Int) (ha:-9223372036854775808≤a):ACalls (⟨Try.prog,G,B⟩:A3) 18 [.ptr (.rw 0) 0,.ptr (.rw 14) 0,.agg [.int .i64 c,.int .i64 p,.int .i64 a,.int .i64 b]] (J1 0 [(tsP,s),(tsR,s)]) fun v H'=>DoR (R5 s c p a b) v (H'.take 200):=by
 have h:=D3 (C:=(⟨Try.prog,G,B⟩:A3)) (K:=Dc Try.prog [14] (doQ (F6 tsP) (F6 tsR)) [] 0) (fuel:=900) (n0:=20) (f:=18) (fn:=Try.f18) (args:=[.ptr (.rw 0) (.lit 0),.ptr (.rw 14) (.lit 0),.agg (.of [.int .i64 (.var 10 c),.int .i64 (.var 11 p),.int .i64 (.var 12 a),.int .i64 (.var 13 b)])]) (H:=Ce 1 (.var 1 (encX s))++Cd 15 (.var 1 (encX s))) (keep:=200)
  (R:=fun v H=>DoR (R5 s c p a b) v H) (by rw [show loopsOf (bodyOf Try.f18)=[] by kernel_rfl];exact dgood (mix G B) (by kernel_rfl) (doQ_ok G B) .nil) (by kernel_rfl) (by kernel_rfl) (by kernel_rfl) (by
  rw [do_t];have o1:=cZ hw 1;have o2:=aZ hw 15;have bf:∀ x:Int,(x==x)=true:=fun x=>beq_self_eq_true x;have bb:∀ x:Bool,(x==x)=true:=fun x=>beq_self_eq_true x;have st:∀ (d:Int) (X:Ptb),(c==d)=true→(c=d→R5 s c p a b=X)→X=R5 s c p a b:=fun d X h1 h2=>(h2 (eq_of_beq h1)).symm;refine ⟨fun h1=>?_,fun n1=>⟨fun h2=>?_,fun n2=>⟨fun h3=>?_,fun n3=>⟨fun h4=>?_,fun n4=>⟨fun h5=>?_,fun n5=>⟨fun h6=>?_,fun n6=>⟨fun h7=>?_,fun n7=>⟨fun h8=>?_,fun n8=>⟨fun h9=>?_,fun n9=>⟨fun h10=>?_,fun n10=>?_⟩⟩⟩⟩⟩⟩⟩⟩⟩⟩
  ·have e:Dm s p=R5 s c p a b:=st 1 _ h1 fun e=>by subst e;rfl
   have w:Wf (Dm s p):=hw.forkR p;refine ⟨o1,o2,bf _,?_⟩;exact Yv (i:=0) (b:=29) (j:=14) (c:=42) e (Oc hw.thin p Dm) w (bf _) rfl (Qt ⟨rfl,rfl,rfl,rfl,rfl,rfl,rfl,rfl,rfl,rfl,rfl,rfl,rfl⟩) rfl (Qt ⟨rfl,rfl,rfl,rfl,rfl,rfl,rfl,rfl,rfl,rfl,rfl,rfl,rfl⟩) (by decide) (by simp [Ff,Id])
  ·have e:P6 s p a=R5 s c p a b:=st 2 _ h2 fun e=>by subst e;rfl
   have w:Wf (P6 s p a):=hw.endR p a;refine ⟨o1,o2,?_⟩;exact Yv (i:=0) (b:=29) (j:=14) (c:=42) e (Ad hw.thin p a P6) w (bf _) rfl (Qt ⟨rfl,rfl,rfl,rfl,rfl,rfl,rfl,rfl,rfl,rfl,rfl,rfl,rfl⟩) rfl (Qt ⟨rfl,rfl,rfl,rfl,rfl,rfl,rfl,rfl,rfl,rfl,rfl,rfl,rfl⟩) (by decide) (by simp [Ff,Id])
  ·have e:Lk s p a=R5 s c p a b:=st 3 _ h3 fun e=>by subst e;rfl
   have w:Wf (Lk s p a):=hw.waitX p a;refine ⟨o1,o2,bf _,bf _,fun hb=>⟨hb,?_⟩,fun hb=>⟨by rw [hb];rfl,?_⟩⟩
   ·exact Ip e (Ad hw.thin p a Lk) w (bf _)
   ·exact Ip e (Ad hw.thin p a Lk) w (bf _)
  ·exact ⟨o1,o2,Ip (st 4 _ h4 fun e=>by subst e;rfl) (Ad hw.thin p a V5) (hw.groupX p a) (bf _)⟩
  ·exact ⟨o1,o2,Ip (st 5 _ h5 fun e=>by subst e;rfl) (Ad hw.thin p a Y7) (hw.userX p a) (bf _)⟩
  ·exact ⟨o1,decide_eq_true ha,o2,Ip (st 6 _ h6 fun e=>by subst e;rfl) (Ob hw.thin p a b L5) (hw.killX p a b) (bf _)⟩
  ·exact ⟨o1,o2,bf _,Ip (st 7 _ h7 fun e=>by subst e;rfl) (Ad hw.thin p a Em) (hw.maskX p a) (bf _)⟩
  ·exact ⟨o1,o2,bf _,Ip (st 8 _ h8 fun e=>by subst e;rfl) (Ob hw.thin p a b Az) (hw.handX p a b) (bf _)⟩
  ·have e:I7 s p=R5 s c p a b:=st 9 _ h9 fun e=>by subst e;rfl
   have w:Wf (I7 s p):=hw.takeX p;refine ⟨o1,o2,bf _,fun hb=>⟨hb,bf _,?_⟩,fun hb=>⟨by rw [hb];rfl,bf _,?_⟩⟩
   ·exact Yv (i:=0) (b:=29) (j:=14) (c:=43) e (Oc hw.thin p I7) w (bb _) rfl (Qt ⟨rfl,rfl,rfl,rfl,rfl,rfl,rfl,rfl,rfl,rfl,rfl,rfl,rfl⟩) rfl (Qt ⟨rfl,rfl,rfl,rfl,rfl,rfl,rfl,rfl,rfl,rfl,rfl,rfl,rfl⟩) (by decide) (by simp [Ff,Id])
   ·exact Yv (i:=0) (b:=29) (j:=14) (c:=43) e (Oc hw.thin p I7) w (bb _) rfl (Qt ⟨rfl,rfl,rfl,rfl,rfl,rfl,rfl,rfl,rfl,rfl,rfl,rfl,rfl⟩) rfl (Qt ⟨rfl,rfl,rfl,rfl,rfl,rfl,rfl,rfl,rfl,rfl,rfl,rfl,rfl⟩) (by decide) (by simp [Ff,Id])
  ·have e:s=R5 s c p a b:=st 10 _ h10 fun e=>by subst e;rfl
   have w1:Wf (Dm s 1):=hw.forkR 1;have w2:Wf (L5 (Dm s 1) 1 1 1):=w1.killX 1 1 1;rw [Oc hw.thin,Ob w1.thin];refine ⟨o1,cZ hw 30,o1,o1,cZ w1 43,cZ w2 43,?_⟩;refine Yv (i:=29) (b:=30) (j:=14) (c:=15) e rfl hw ?_ rfl (Qt ⟨rfl,rfl,rfl,rfl,rfl,rfl,rfl,rfl,rfl,rfl,rfl,rfl,rfl⟩) rfl (Qt ⟨rfl,rfl,rfl,rfl,rfl,rfl,rfl,rfl,rfl,rfl,rfl,rfl,rfl⟩) (by decide) (by simp [D2,D1,Ff,Id]);show Ay (P7 (encX s)) (P7 (encX s))=true;rw [C7 hw.thin,sT]
  ·have e:s=R5 s c p a b:=by
    unfold R5;have f:∀ {d:Int},(c==d)=false→¬c=d:=fun h=>beq_eq_false_iff_ne.1 h;rw [if_neg (f n1),if_neg (f n2),if_neg (f n3),if_neg (f n4),if_neg (f n5),if_neg (f n6),if_neg (f n7),if_neg (f n8),if_neg (f n9)]
   exact Ip e rfl hw rfl)
 have hH:vHp G (Ce 1 (.var 1 (encX s))++Cd 15 (.var 1 (encX s)))=J1 0 [(tsP,s),(tsR,s)]:=by
  show D2 1 (encX s)++D1 15 (encX s)=_;rw [show D2 1 (encX s)=_ from Ig hw.thin 1,show D1 15 (encX s)=_ from If hw.thin 15];simp only [J1,List.append_nil]
 rw [hH] at h;exact h
theorem aT5 (G:Nat→List AV) (B:Nat) {s:Ptb} (hw:Wf s) (c p a b:Int) (ha:-9223372036854775808≤a):ACalls (⟨Try.prog,G,B⟩:A3) 18 [.ptr (.rw 0) 0,.ptr (.rw 14) 0,.agg [.int .i64 c,.int .i64 p,.int .i64 a,.int .i64 b]] (J1 0 [(tsP,s),(tsR,s)]) fun v H'=>v=.tup [.ptr (.rw 28) 0,.ptr (.rw 42) 0,.bool true]∧H'=List.replicate 28 none++J1 28 [(tsP,R5 s c p a b),(tsR,R5 s c p a b)]:=
 (do_run G B hw c p a b ha).view fun v H' ⟨i,b1,j,c1,e,hP,hR,hn,hl⟩=>by
  subst e;refine ⟨_,_,⟨rfl,rfl⟩,?_⟩;rw [Ie];refine C8.objs (m:=28) (pl:=[(i,b1),(j,c1)]) ?_ ⟨tsP_ok,hP.more,tsR_ok,hR.more,trivial⟩ hn rfl ?_
  ·rw [List.length_take] at hl;omega
  ·exact ⟨rfl,trivial⟩
end Go.Am
