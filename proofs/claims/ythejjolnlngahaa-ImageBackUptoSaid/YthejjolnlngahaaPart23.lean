/-
  Images read, whatever the bytes: the rest of Read. Images read, whatever the bytes: the rest of Read walked.
-/
import Derived.Test.YthejjolnlngahaaPart22
namespace Go.Am
open Go.Proofs Go.RowKit Crc
set_option maxRecDepth 100000
theorem aU7 {C:A0} {f j:Nat} {vs0:List AV} {x:EL} {c:Bool} {b:EB} {q:List AV→Bool} (hq:q=fun xs=>c&&D9 vs0 [] xs) (ha:A3 0 vs0=true)
  (h:c=true→(vB C.G b=true→u8s (vL C.G x)=true∧ACalls C f vs0 [] fun v H=>v=.tup [.slice false (.rw 0) 0 (vL C.G x).length,.int .i64 0]∧H=[some ⟨1,vL C.G x⟩])∧(vB C.G b=false→ACalls C f vs0 [] fun v _=>v=.tup [.nils,.int .i64 2])):D4 C f (gX j q b x):=by
 cases c with
 | true=>
  obtain ⟨h1,h2⟩:=h rfl;exact sBy_ok (by rw [hq];simp) h1 h2 ha
 | false=>
  intro args H o ho;simp only [gX,zK] at ho;subst ho;intro h1;have h1:q [.agg (vVs C.G args),.agg (R4 [])]=true:=h1;rw [hq] at h1;simp at h1
def rzN (l:List AV):Nat:=l.length - 8
def rzT (l:List AV):List AV:=A9 l 4 (rzN l)
def rzA (l:List AV):Int:=d1 (rzT l) 0
def Hd (l:List AV):Int:=B0 [.agg (rzT l),.int .i64 0]
def rz0 (l:List AV):Bool:=decide (8≤l.length)&&((O8 (A9 l 0 4):List UInt8)==O8 Uz)
def Tb (l:List AV):Bool:=rz0 l&&Ah (rzT l) 0
def rzX (l:List AV):Int:=lX (rzT l) (rzN l) (rzA l)
def rzn (l:List AV):Nat:=Ds (rzT l) 8 (rzA l)
def Uc (l:List AV):Bool:=Tb l&&(M8 (rzT l) 8 (rzA l)&&rvB (rzT l) (rzN l) (rzA l))
def gY (l:List AV):Int:=lW (rzT l) (rzX l)
def rzm (l:List AV):Nat:=Ds (rzT l) 512 (rzX l)
def Ub (l:List AV):Bool:=Uc l&&(M8 (rzT l) 512 (rzX l)&&rvD (rzT l) (rzX l))
theorem rz_len {l:List AV}:(rzT l).length=rzN l:=by
 simp only [rzT,A9,List.length_take,List.length_drop,rzN];omega
theorem uC {l:List AV} (h:I9 l=true):I9 (rzT l)=true:=by
 simp only [I9,xM] at h ⊢;intro v hv;exact h v (List.mem_of_mem_drop (List.mem_of_mem_take hv))
theorem rz_r0 {l:List AV} (h:I9 l=true) (hL:l.length≤1000000):J2 (rzT l) (rzN l) 0:=
 ⟨uC h,rz_len,by unfold rzN;omega,rfl,zA2 _⟩
theorem uB {l:List AV} (h:I9 l=true) (hL:l.length≤1000000) (h1:Tb l=true):J2 (rzT l) (rzN l) (rzA l)∧0≤Hd l∧Hd l≤131072:=by
 simp only [Tb,zN] at h1;obtain ⟨q,l1⟩:=T4.1 h1.2;obtain ⟨r,v,_⟩:=N8 (rz_r0 h hL) q;exact ⟨r,v,l1⟩
structure Rz2 (l:List AV):Prop where
 c1:Tb l=true
 nn:rzn l≤8
 rp:J2 (rzT l) (rzN l) (d1 (rzT l) (rzA l))
 all:Fk (rzT l) (rzN l) (d1 (rzT l) (rzA l)) (rzn l)=true
 rX:J2 (rzT l) (rzN l) (rzX l)
theorem rz_2 {l:List AV} (h:I9 l=true) (hL:l.length≤1000000) (h2:Uc l=true):Rz2 l:=by
 simp only [Uc,zN] at h2;obtain ⟨h1,hc,hb⟩:=h2;have rA:=(uB h hL h1).1;have rp:=(N8 rA (S9.1 hc).1).1
 have ha:Fk (rzT l) (rzN l) (d1 (rzT l) (rzA l)) (rzn l)=true:=by
  have:=hb;unfold rvB at this;rw [hc] at this;exact this
 have eX:rzX l=B4 (rzT l) (rzN l) (d1 (rzT l) (rzA l)) (rzn l):=by unfold rzX lX rzn;rw [if_pos hc]
 exact ⟨h1,(aN (M:=8) rA).1,rp,ha,by rw [eX];exact eM rp ha _ (zA1 _)⟩
structure Rz3 (l:List AV):Prop where
 z2:Rz2 l
 mm:rzm l≤512
 rp:J2 (rzT l) (rzN l) (d1 (rzT l) (rzX l))
 all:Ig (rzT l) (d1 (rzT l) (rzX l)) (rzm l)=true
theorem rz_3 {l:List AV} (h:I9 l=true) (hL:l.length≤1000000) (h3:Ub l=true):Rz3 l:=by
 simp only [Ub,zN] at h3;obtain ⟨h2,hc,hb⟩:=h3;have z:=rz_2 h hL h2;exact ⟨z,(aN (M:=512) z.rX).1,(N8 z.rX (S9.1 hc).1).1,by have:=hb;unfold rvD at this;rw [hc] at this;exact this⟩
structure jF (G:Nat→List AV) (ks kp:Nat) (kd:Nat→Nat) (l:List AV):Prop where
 d:∀ j,j<rzn l→G (kd j)=dD (rzT l) (rzN l) (B4 (rzT l) (rzN l) (d1 (rzT l) (rzA l)) j)
 s:G ks=M6 (rzT l) (rzN l) (d1 (rzT l) (rzA l)) kd (rzn l)
 p:G kp=R8 (rzT l) (d1 (rzT l) (rzX l)) (rzm l)
theorem lV {G:Nat→List AV} {ks kp:Nat} {kd:Nat→Nat} {l:List AV} (g:jF G ks kp kd l) (z:Rz3 l):T2 G ks kp (rzn l) (rzm l)∧Gx G ks kp (rzn l) (rzm l):=
 aZ7 z.z2.rp z.z2.all z.rp z.all z.z2.nn z.mm g.s g.p g.d
def aM (G:Nat→List AV) (ks kp:Nat) (l:List AV):List AV:=F5 G (Hd l) (G ks) (rzn l) (G kp) (rzm l)
def rzM (G:Nat→List AV) (ks kp:Nat) (l:List AV):Bool:=E8 (Hd l) (G ks) (rzn l) (G kp) (rzm l)
def Cu (G:Nat→List AV) (ks kp:Nat) (l:List AV):Bool:=Ub l&&(decide (rzN l≤gY l)&&(rzM G ks kp l&&((O8 (aM G ks kp l):List UInt8)==O8 l)))
theorem pgZ (G:Nat→List AV) (B:Nat) (ks kp:Nat) (kd:Nat→Nat) (l:List AV) (h8:I9 l=true) (hL:l.length≤1000000) (g:jF G ks kp kd l):Xw (⟨Try.prog,G,B⟩:A0) (⟨Dc Try.prog [59,42,60,61,85,62,65,69,68,70,87,92] ((28,(gX 2518 (fun xs=>Ub l&&D9 [.agg [.int .i64 (Hd l),.slice true (.ro ks) 0 (rzn l),.slice true (.ro kp) 0 (rzm l)]] [] xs) (.var 33 (rzM G ks kp l)) (.var 21 (aM G ks kp l))))::progR) [] 1,96,Kg [(63,(Ek 2516 (fun xs=>Tb l&&Hy (rzT l) (rzN l) (rzA l) [.int .i64 8,.func 64 []] xs) (.var 31 (rvB (rzT l) (rzN l) (rzA l))) (.tup [.slice true (.ro (.var 24 ks)) (.lit 0) (.var 3 (rzn l)),.int .i64 (.var 13 (Fs (rzT l) 8 (rzA l)))]) (.var 11 (rzX l)))),(66,(Ek 2517 (fun xs=>Uc l&&Hy (rzT l) (rzN l) (rzX l) [.int .i64 512,.func 67 []] xs) (.var 32 (rvD (rzT l) (rzX l))) (.tup [.slice true (.ro (.var 25 kp)) (.lit 0) (.var 4 (rzm l)),.int .i64 (.var 14 (Fs (rzT l) 512 (rzX l)))]) (.var 12 (gY l))))],fun _ _=>none,.skip⟩:Ha):=by
 have h8T:=uC h8;have hN:rzN l≤1000000:=by unfold rzN;omega
 have c63:Jo (⟨Try.prog,G,B⟩:A0) 96 63 (Ek 2516 (fun xs=>Tb l&&Hy (rzT l) (rzN l) (rzA l) [.int .i64 8,.func 64 []] xs) (.var 31 (rvB (rzT l) (rzN l) (rzA l))) (.tup [.slice true (.ro (.var 24 ks)) (.lit 0) (.var 3 (rzn l)),.int .i64 (.var 13 (Fs (rzT l) 8 (rzA l)))]) (.var 11 (rzX l))):=gP (c:=Tb l) rfl rfl rfl fun hc=>⟨h8T,k63 G B (rzT l) (rzN l) ks (rzA l) kd hN (uB h8 hL hc).1 g.d g.s⟩
 have c66:Jo (⟨Try.prog,G,B⟩:A0) 96 66 (Ek 2517 (fun xs=>Uc l&&Hy (rzT l) (rzN l) (rzX l) [.int .i64 512,.func 67 []] xs) (.var 32 (rvD (rzT l) (rzX l))) (.tup [.slice true (.ro (.var 25 kp)) (.lit 0) (.var 4 (rzm l)),.int .i64 (.var 14 (Fs (rzT l) 512 (rzX l)))]) (.var 12 (gY l))):=gP (c:=Uc l) rfl rfl rfl fun hc=>⟨h8T,k66 G B (rzT l) (rzN l) kp (rzX l) hN (rz_2 h8 hL hc).rX g.p⟩
 have c28:D4 (⟨Try.prog,G,B⟩:A0) 28 (gX 2518 (fun xs=>Ub l&&D9 [.agg [.int .i64 (Hd l),.slice true (.ro ks) 0 (rzn l),.slice true (.ro kp) 0 (rzm l)]] [] xs) (.var 33 (rzM G ks kp l)) (.var 21 (aM G ks kp l))):=aU7 (c:=Ub l) rfl rfl fun hc=>by
  have z:=rz_3 h8 hL hc;have hn:rzn l≤1000000:=by have:=z.z2.nn;omega
  have hm:rzm l≤1000000:=by have:=z.mm;omega
  obtain ⟨hb,hw⟩:=lV g z;exact ⟨fun hy=>⟨Sj (Po hb hw hy),tD G B ks kp (rzn l) (rzm l) (Hd l) hb hw hn hm hy⟩,fun hy=>by_no G B ks kp (rzn l) (rzm l) (Hd l) hb hn hm hy⟩
 exact ⟨D7 (mix G B) (by kernel_rfl) (.cons c28 (U3 G B)) .nil,aU c63 (aU c66 xZ),fun _ _ _ h=>(by cases h),fun ops k h=>kD ops k h⟩
theorem aA4 {s:List AV} {M a:Int} (h:Fh s M a=0):M8 s M a=true:=by
 rw [S9];unfold Fh at h;split at h
 ·rename_i q;split at h
  ·exact absurd h (by decide)
  ·exact ⟨q,by omega⟩
 ·rename_i q;exact absurd h q
theorem rz_no {G:Nat→List AV} {ks kp:Nat} {l:List AV} (h:¬Cu G ks kp l=true):Cu G ks kp l=false:=by
 cases e:Cu G ks kp l with
 | true=>exact absurd e h
 | false=>rfl
theorem El {G:Nat→List AV} {ks kp:Nat} {l:List AV} (h:Cu G ks kp l=true):(8≤l.length∧((O8 (A9 l 0 4):List UInt8)==O8 Uz)=true)∧Ah (rzT l) 0=true∧(M8 (rzT l) 8 (rzA l)=true∧rvB (rzT l) (rzN l) (rzA l)=true)∧(M8 (rzT l) 512 (rzX l)=true∧rvD (rzT l) (rzX l)=true)∧(rzN l:Int)≤gY l∧rzM G ks kp l=true∧((O8 (aM G ks kp l):List UInt8)==O8 l)=true:=by
 simp only [Cu,Ub,Uc,Tb,rz0,zN,xE] at h;obtain ⟨⟨⟨⟨⟨a,b⟩,c⟩,d⟩,e⟩,f,g,k⟩:=h;exact ⟨⟨a,b⟩,c,d,e,f,g,k⟩
theorem aG0 (G:Nat→List AV) (B:Nat) (ks kp:Nat) (kd:Nat→Nat) (l:List AV) (h8:I9 l=true) (hL:l.length≤1000000) (g:jF G ks kp kd l) :
  vT G (fun e vs H=>e=Ex.ret∧Cu G ks kp l=true∧vs=[.slice false (.rw 0) 0 l.length,.ptr (.rw 1) 0,.ptr (.rw 2) 0]∧∃ E:Hp,H=[some ⟨1,l⟩,some ⟨1,[.int .i64 (Hd l),.slice true (.ro ks) 0 (rzn l),.slice true (.ro kp) 0 (rzm l)]⟩,some ⟨1,[.int .i64 0]⟩]++E) (fun _ H=>Cu G ks kp l=false∧∃ (x y z u:AV) (E:Hp),H=[some ⟨1,l⟩,some ⟨1,[x,y,z]⟩,some ⟨1,[u]⟩]++E) (Wm (⟨Dc Try.prog [59,42,60,61,85,62,65,69,68,70,87,92] ((28,(gX 2518 (fun xs=>Ub l&&D9 [.agg [.int .i64 (Hd l),.slice true (.ro ks) 0 (rzn l),.slice true (.ro kp) 0 (rzm l)]] [] xs) (.var 33 (rzM G ks kp l)) (.var 21 (aM G ks kp l))))::progR) [] 1,96,Kg [(63,(Ek 2516 (fun xs=>Tb l&&Hy (rzT l) (rzN l) (rzA l) [.int .i64 8,.func 64 []] xs) (.var 31 (rvB (rzT l) (rzN l) (rzA l))) (.tup [.slice true (.ro (.var 24 ks)) (.lit 0) (.var 3 (rzn l)),.int .i64 (.var 13 (Fs (rzT l) 8 (rzA l)))]) (.var 11 (rzX l)))),(66,(Ek 2517 (fun xs=>Uc l&&Hy (rzT l) (rzN l) (rzX l) [.int .i64 512,.func 67 []] xs) (.var 32 (rvD (rzT l) (rzX l))) (.tup [.slice true (.ro (.var 25 kp)) (.lit 0) (.var 4 (rzm l)),.int .i64 (.var 14 (Fs (rzT l) 512 (rzX l)))]) (.var 12 (gY l))))],fun _ _=>none,.skip⟩:Ha) 400 30 3 (J5 (J5 (C6 Try.f29))) 55 [0,2,3] [.slice false (.rw 0) (.lit 0) (.var 5 l.length),.ptr (.rw 1) (.lit 0),.ptr (.rw 2) (.lit 0)] [some ⟨1,.var 20 l⟩,some ⟨1,.of [.int .i64 (.lit 0),.nils,.nils]⟩,some ⟨1,.of [.int .i64 (.lit 0)]⟩]):=by
 rw [t29p]
 have eE:Int.toNat (if 0>IntKind.wrap .i64 (((l.length:Nat):Int) - 4) then 0 else IntKind.wrap .i64 (((l.length:Nat):Int) - 4))=l.length - 4:=by
  rw [B6 (n:=((l.length:Nat):Int) - 4) (by omega)]
  split<;>omega
 have eE2:(if 0>IntKind.wrap .i64 (((l.length:Nat):Int) - 4) then 0 else IntKind.wrap .i64 (((l.length:Nat):Int) - 4))=((l.length - 4:Nat):Int):=by
  rw [B6 (n:=((l.length:Nat):Int) - 4) (by omega)]
  split<;>omega
 rw [eE2,Int.toNat_natCast];have eN:l.length - 4 - 4=rzN l:=by unfold rzN;omega
 rw [eN];have eT:A9 l 4 (rzN l)=rzT l:=rfl;have eL:A9 l 0 l.length=l:=qU rfl;have eF:A9 (aM G ks kp l) 0 (aM G ks kp l).length=aM G ks kp l:=qU rfl;rw [eT,eL,eF];have h8T:=uC h8;have hN:rzN l≤1000000:=by unfold rzN;omega
 have r0:=rz_r0 h8 hL;rw [B6 (n:=((rzN l:Nat):Int)+1) (by omega)];have bg:gA 1 [.int .i64 (((rzN l:Nat):Int)+1)]≤140737488355328:=by show (((rzN l:Nat):Int)+1)*((1:Nat):Int)≤_;omega
 have u4:u8s (A9 l 0 4)=true:=by
  have:=O3 h8
  simp only [u8s,xM,A9] at this ⊢;exact fun v hv=>this v (List.mem_of_mem_drop (List.mem_of_mem_take hv))
 have no:∀ {x y z u:AV} {E:Hp},(Cu G ks kp l=true→False)→(fun _ H=>Cu G ks kp l=false∧∃ (x y z u:AV) (E:Hp),H=[some ⟨1,l⟩,some ⟨1,[x,y,z]⟩,some ⟨1,[u]⟩]++E) (AV.func 987654 []) ([some ⟨1,l⟩,some ⟨1,[x,y,z]⟩,some ⟨1,[u]⟩]++E):=fun h=>⟨rz_no h,_,_,_,_,_,rfl⟩;refine ⟨yM (by omega),yM (by omega),fun h4=>?_,fun h4=>?_⟩
 ·have h4:=yL h4;have hl8:8≤l.length:=by omega
  refine ⟨yM (by omega),B2.2 (by omega),u4,rfl,fun hm=>?_,fun hm=>?_⟩
  ·refine ⟨yM (by omega),yM (by omega),yM (by omega),yM bg,yM (by omega),B2.2 (by unfold rzN;omega),L8 (O3 h8T),B2.2 (by omega),J9.2 r0,fun e0=>⟨fun v0=>?_,fun v0=>?_⟩,fun e0=>?_⟩
   ·exact no fun o=>by
     have q:=(T4.1 (El o).2.1).2
     have:=yL v0
     omega
   ·have c1:Tb l=true:=by
     simp only [Tb,rz0,zN,xE];exact ⟨⟨hl8,hm⟩,T4.2 ⟨eq_of_beq e0,by have:=yP v0;omega⟩⟩
    obtain ⟨rA,s0,s1⟩:=uB h8 hL c1;have eS:IntKind.wrap .i64 (B0 [.agg (rzT l),.int .i64 0])=Hd l:=B6 (n:=Hd l) (by omega);rw [eS];refine ⟨by show (Tb l&&Hy _ _ _ _ _)=true;rw [c1];exact iQ,fun b1=>⟨fun e1=>?_,fun e1=>?_⟩,fun b1=>?_⟩
    ·have k1:M8 (rzT l) 8 (rzA l)=true:=by
      cases e:M8 (rzT l) 8 (rzA l) with
      | true=>rfl
      | false=>
       exfalso;unfold Fs at e1;rw [if_neg (by rw [e];decide)] at e1;rw [aA4 (eq_of_beq e1)] at e;cases e
     have c2:Uc l=true:=by simp only [Uc,zN];exact ⟨c1,k1,b1⟩
     have z2:=rz_2 h8 hL c2;refine ⟨by show (Uc l&&Hy _ _ _ _ _)=true;rw [c2];exact iQ,fun b2=>⟨fun e2=>?_,fun e2=>?_⟩,fun b2=>?_⟩
     ·have k2:M8 (rzT l) 512 (rzX l)=true:=by
       cases e:M8 (rzT l) 512 (rzX l) with
       | true=>rfl
       | false=>
        exfalso;unfold Fs at e2;rw [if_neg (by rw [e];decide)] at e2;rw [aA4 (eq_of_beq e2)] at e;cases e
      have c3:Ub l=true:=by simp only [Ub,zN];exact ⟨c2,k2,b2⟩
      have z:=rz_3 h8 hL c3
      have rY:J2 (rzT l) (rzN l) (gY l):=by
       unfold gY lW;rw [if_pos k2];exact (eO z.rp z.all _ (zA1 _)).1
      have p1:=rY.pos;have p2:=rY.le;rw [B6 (n:=((rzN l:Nat):Int) - gY l) (by omega)];refine ⟨fun lf=>?_,fun lf=>⟨by show (Ub l&&D9 _ _ _)=true;rw [c3,Bool.true_and];exact C5 (vs0:=[.agg [.int .i64 (Hd l),.slice true (.ro ks) 0 (rzn l),.slice true (.ro kp) 0 (rzm l)]]) (H0:=[]),fun my=>?_,fun my=>?_⟩⟩
      ·exact no fun o=>by have:=(El o).2.2.2.2.1;have:=yL lf;omega
      ·obtain ⟨hb,hw⟩:=lV g z;have uF:u8s (aM G ks kp l)=true:=Sj (Po hb hw my);refine ⟨B2.2 (zA1 _),uF,B2.2 (zA1 _),O3 h8,fun ef=>⟨rfl,?_,rfl,_,rfl⟩,fun ef=>no fun o=>?_⟩
       ·simp only [Cu,zN,xE];exact ⟨c3,by have:=yP lf;omega,my,ef⟩
       ·rw [(El o).2.2.2.2.2.2] at ef;cases ef
      ·exact no fun o=>by rw [(El o).2.2.2.2.2.1] at my;cases my
     ·exact no fun o=>by
       have k2:=(El o).2.2.2.1.1;unfold Fs at e2;rw [if_pos k2] at e2;cases e2
     ·exact no fun o=>by rw [(El o).2.2.2.1.2] at b2;cases b2
    ·exact no fun o=>by
      have k1:=(El o).2.2.1.1;unfold Fs at e1;rw [if_pos k1] at e1;cases e1
    ·exact no fun o=>by rw [(El o).2.2.1.2] at b1;cases b1
   ·exact no fun o=>by
     have q:=(T4.1 (El o).2.1).1;rw [q] at e0;cases e0
  ·exact no fun o=>by
    have q:=(El o).1.2;have hm:((O8 (A9 l 0 4):List UInt8)==O8 Uz)=false:=hm;rw [q] at hm;cases hm
 ·exact no fun o=>by have:=(El o).1.1;have:=yP h4;omega
theorem Pb {m i:Nat} {ρ ρ':Env} {v:Value} (h:K9 m ρ ρ') (hi:i<m) (hv:VR ρ (.ptr (.rw i) 0) v):VR ρ' (.ptr (.rw i) 0) v:=by
 simp only [VR,S3] at hv ⊢;obtain ⟨e,h1,h2⟩:=hv;exact ⟨e,(h i hi).trans h1,h2⟩
theorem Pc {i:Nat} {ρ:Env} {d:List Nat} {v:Value} (hv:VR ρ (.ptr (.rw i) 0) v):VR ⟨ρ.rw,ρ.ro,d⟩ (.ptr (.rw i) 0) v:=by
 simp only [VR,S3] at hv ⊢;exact hv
theorem aH2:Try.f29.results=#[.cell 2 25,.cell 3 29]:=by kernel_rfl
theorem res29 {t t':Array Value} (h2:t.getD 2 undef=t'.getD 2 undef) (h3:t.getD 3 undef=t'.getD 3 undef):results Try.f29 t=results Try.f29 t':=by
 rw [Rn,Rn,aH2];have e2:Nl t (.cell 2 25)=Nl t' (.cell 2 25):=by unfold Nl;simp only [h2]
 have e3:Nl t (.cell 3 29)=Nl t' (.cell 3 29):=by unfold Nl;simp only [h3]
 simp only [Array.mapM_eq_mapM_toList,List.mapM_cons,List.mapM_nil,e2,e3]
theorem aU5 (G:Nat→List AV) (B:Nat) (ks kp:Nat) (l:List AV) (hl:u8s l=true) (hn:Cu G ks kp l=false) {tmps:Array Value} {cs:Array Value} {ρ':Env} {x y z u:AV} {E:Hp} (hsz:cs.size=2) (c2:VR ρ' (.ptr (.rw 1) 0) cs[0]) (c3:VR ρ' (.ptr (.rw 2) 0) cs[1])
  (t2:VR ρ' (.ptr (.rw 1) 0) (tmps.getD 2 undef)) (t3:VR ρ' (.ptr (.rw 2) 0) (tmps.getD 3 undef)):Saved (⟨Try.prog,G,B⟩:A0) 96 Try.f29 ⟨.fn (.func 58) cs,#[]⟩ tmps ρ' ([some ⟨1,l⟩,some ⟨1,[x,y,z]⟩,some ⟨1,[u]⟩]++E) 1 (fun v H=>v=(if Cu G ks kp l=true then AV.tup [.agg [.int .i64 (Hd l),.slice true (.ro ks) 0 (rzn l),.slice true (.ro kp) 0 (rzm l)],.int .i64 0] else .tup [.agg [.int .i64 0,.nils,.nils],.int .i64 4])∧∃ E,H=[some ⟨1,l⟩]++E):=by
 intro d w2 hR;have he:Qw Try.prog 58:=⟨Try.f58,C6 Try.f58,by kernel_rfl,by kernel_rfl,by kernel_rfl⟩
 have ea:(#[]++cs:Array Value)=#[cs[0],cs[1]]:=by
  apply Array.ext (by simp [hsz]);intro i h1 h2;simp at h2
  match i,h2 with
  | 0,_=>simp
  | 1,_=>simp
 refine ⟨.func 58,cs,58,#[]++cs,rfl,?_,?_⟩
 ·show (invoke (.fn (.func 58) cs) #[]).run Try.prog w2=_;simp only [invoke];exact Cd he _ w2
 rw [ea];have h0:B1 (⟨Try.prog,G,B⟩:A0) ⟨ρ'.rw,ρ'.ro,[]⟩ ([some ⟨1,l⟩,some ⟨1,[x,y,z]⟩,some ⟨1,[u]⟩]++E) w2:=hR.setDfs [] fun _ h=>by simp at h
 refine (mend58 G B l E x y z u hl h0 (Pc c2) (Pc c3)).mono ?_;rintro e u' w3 ⟨rfl,hu,ρ3,k1,k2,k3⟩;obtain ⟨b1,b2⟩:=hR.back k3 k2
 have hF:D0 ⟨ρ3.rw,ρ3.ro,d⟩ [.undef,.undef,.ptr (.rw 1) 0,.ptr (.rw 2) 0] ⟨#[undef,undef,tmps.getD 2 undef,tmps.getD 3 undef],[]⟩:=by
  refine ⟨⟨[],rfl,List.nodup_nil,fun _ h=>by simp at h⟩,rfl,fun i v hv=>?_⟩
  match i,hv with
  | 0,hv=>simp at hv;subst hv;simp [VR]
  | 1,hv=>simp at hv;subst hv;simp [VR]
  | 2,hv=>simp at hv;subst hv;exact Pc (Pb k1 (by omega) (Pc t2))
  | 3,hv=>simp at hv;subst hv;exact Pc (Pb k1 (by omega) (Pc t3))
 have hres:On (⟨Try.prog,G,B⟩:A0) Try.f29 [.undef,.undef,.ptr (.rw 1) 0,.ptr (.rw 2) 0] [some ⟨1,l⟩,some ⟨1,[.int .i64 0,.nils,.nils]⟩,some ⟨1,[.int .i64 4]⟩,some ⟨1,[]⟩]=some (true,.tup [.agg [.int .i64 0,.nils,.nils],.int .i64 4]):=by kernel_rfl
 obtain ⟨cv,g1,g2⟩:=Em b1 hF hres;refine ⟨rfl,hu,cv,_,⟨ρ3.rw,ρ3.ro,d⟩,_,?_,⟨?_,[some ⟨1,[.int .i64 0,.nils,.nils]⟩,some ⟨1,[.int .i64 4]⟩,some ⟨1,[]⟩],rfl⟩,⟨fun i hi=>k1 i (by omega),k3.ro,fun _ h=>h⟩,b1,g2,b2⟩
 ·rw [←g1];exact congrArg (fun s:Sem Value=>s.run Try.prog w3) (res29 rfl rfl)
 ·rw [if_neg (by rw [hn];decide)]
theorem aV8 (G:Nat→List AV) (B:Nat) (ks kp:Nat) (kd:Nat→Nat) (l:List AV) (h8:I9 l=true) (hL:l.length≤1000000) (g:jF G ks kp kd l):ACalls (⟨Try.prog,G,B⟩:A0) 29 [.slice false (.rw 0) 0 l.length] [some ⟨1,l⟩] (fun v H=>v=(if Cu G ks kp l=true then AV.tup [.agg [.int .i64 (Hd l),.slice true (.ro ks) 0 (rzn l),.slice true (.ro kp) 0 (rzm l)],.int .i64 0] else .tup [.agg [.int .i64 0,.nils,.nils],.int .i64 4])∧∃ E,H=[some ⟨1,l⟩]++E):=by
 have hgood:=pgZ G B ks kp kd l h8 hL g;have hvt:=aG0 G B ks kp kd l h8 hL g;refine jT (rt:=96) (fn:=Try.f29) (c:=C6 Try.f29) (by kernel_rfl) (by kernel_rfl) (by kernel_rfl) fun ρ a w hH hF hdf=>?_;rw [body29];have g0:=Lg (C:=(⟨Try.prog,G,B⟩:A0)) (mix G B) [];refine wpIn_seq (wpIn_region_list ?_);show wpListIn (W none) 0 Try.prog (([oA,Us]:List Oper).toArray) _ [oA,Us] a w;unfold wpListIn;refine St.sound g0 (all:=[oA,Us]) (o:=oA) (.write rfl (by kernel_rfl) (wA G B)) hH hF (r:=none) (fun ρ1 cv1 w1 hH1 hv1 hl1 hf1=>?_);have hF1:=(hF.mono hl1).put oA.dst _ cv1 hv1
 unfold wpListIn;refine St.sound g0 (all:=[oA,Us]) (o:=Us) (.write rfl (by kernel_rfl) (wB9 G B)) hH1 hF1 (r:=none) (fun ρ2 cv2 w2 hH2 hv2 hl2 hf2=>?_);have hF2:=(hF1.mono hl2).put Us.dst _ cv2 hv2;unfold wpListIn;show Code.wpIn (W none) 0 Try.prog _ _ _ _;refine wpIn_seq (wpIn_region_list ?_);show wpListIn (W none) 0 Try.prog (([oC,oD]:List Oper).toArray) _ [oC,oD] _ w2;unfold wpListIn;refine St.sound g0 (all:=[oC,oD]) (o:=oC) (.pure rfl (by kernel_rfl) (pC (x:=.ptr (.rw 1) 0) (y:=.ptr (.rw 2) 0) (by kernel_rfl) (by kernel_rfl))) hH2 hF2 (r:=none) (fun ρ3 cv3 w3 hH3 hv3 hl3 hf3=>?_)
 have hF3:=(hF2.mono hl3).put oC.dst _ cv3 hv3;unfold wpListIn;rw [if_pos (by rfl)];have hv:=hF3.at 7;have e7:(put (put (put (N3 Try.f29 [.slice false (.rw 0) 0 l.length]) oA.dst (.ptr (.rw 1) 0)) Us.dst (.ptr (.rw 2) 0)) oC.dst (.func 58 [.ptr (.rw 1) 0,.ptr (.rw 2) 0])).getD 7 .undef=.func 58 [.ptr (.rw 1) 0,.ptr (.rw 2) 0]:=by kernel_rfl
 replace hv:=(congrArg (fun x=>VR ρ3 x ((((a.put oA.dst cv1).put Us.dst cv2).put oC.dst cv3).tmps.getD 7 undef)) e7).mp hv
 simp only [VR] at hv;obtain ⟨cs,hcs,hr⟩:=hv
 have hsz:cs.size=2:=by
  have:=F7 hr
  simpa using this
 obtain ⟨a3,ha3⟩:∃ a3,a3=((a.put oA.dst cv1).put Us.dst cv2).put oC.dst cv3:=⟨_,rfl⟩;have hd3:a3.defers=[]:=by rw [ha3];exact hdf
 have hev:a3.eval (.tmp 7)=.func (.func 58) #[] cs:=by rw [ha3];exact hcs
 rw [←ha3] at hF3 ⊢
 have hrun:(oD.semAt (W none).round a3.eval).run Try.prog w3=.ok (.defer ⟨.fn (.func 58) cs,#[]⟩) w3:=by
  show (oD.semAt none a3.eval).run Try.prog w3=_;rw [Oper.semAt_none];simp [execOp,oD,resolve,hev,Deferred.ofValue,Sem.run_bind,Sem.run_pure]
 refine ⟨fun _ _=>trivial,?_⟩;rw [hrun];show Code.wpIn (W none) 0 Try.prog (J5 (J5 (C6 Try.f29))) _ ⟨a3.tmps,⟨.fn (.func 58) cs,#[]⟩::a3.defers⟩ w3;rw [hd3];have t2:VR ρ3 (.ptr (.rw 1) 0) (a3.tmps.getD 2 undef):=hF3.at 2;have t3:VR ρ3 (.ptr (.rw 2) 0) (a3.tmps.getD 3 undef):=hF3.at 3
 have hF4:D0 ρ3 (fl 55 [0,2,3] [.slice false (.rw 0) 0 l.length,.ptr (.rw 1) 0,.ptr (.rw 2) 0]) ⟨a3.tmps,[]⟩:=by
  refine bX pL.nil (by rw [←hF3.len];kernel_rfl) fun j i v h1 h2=>?_
  match j,h1,h2 with
  | 0,h1,h2=>
   simp at h1 h2;subst h1 h2;exact hF3.at 0
  | 1,h1,h2=>
   simp at h1 h2;subst h1 h2;exact t2
  | 2,h1,h2=>
   simp at h1 h2;subst h1 h2;exact t3
 have c23:VR ρ3 (.ptr (.rw 1) 0) cs[0]∧VR ρ3 (.ptr (.rw 2) 0) cs[1]:=by
  simp only [VRs] at hr;obtain ⟨p,vs1,q1,q2,p',vs2,q3,q4,q5⟩:=hr;have e:cs.toList=[p,p']:=by rw [q1,q3,q5]
  have e0:cs[0]=p:=by
   have:cs.toList[0]?=some p:=by rw [e];rfl
   simpa [Array.getElem?_toList,hsz] using this
  have e1:cs[1]=p':=by
   have:cs.toList[1]?=some p':=by rw [e];rfl
   simpa [Array.getElem?_toList,hsz] using this
  rw [e0,e1];exact ⟨q2,q4⟩
 have hp3:K9 1 ρ ρ3:=K9.of_le hH (Env.le_trans hl1 (Env.le_trans hl2 hl3)) (by simp);have hf:Frm ρ w ρ3 w3:=hf1.trans (hf2.trans hf3);have key:=mJ (C:=(⟨Try.prog,G,B⟩:A0)) hgood (fun _ _=>rfl) hvt none [⟨.fn (.func 58) cs,#[]⟩] [2,3] (by kernel_rfl) (ρ:=ρ3) (a:=⟨a3.tmps,[]⟩) (w:=w3) (by simp) hH3 hF4;refine Code.wpIn_mono ?_ key;rintro e a' w' ⟨a0,e0,hk,ρ',F',H',hX,j3,j4,j5,j6⟩;have j1:K9 1 ρ3 ρ':=fun i hi=>j3 i (by omega);refine ⟨_,a0,e0,?_⟩;rcases hX with ⟨ae,rfl,hq⟩ | ⟨rfl,hn,x,y,z,u,E,rfl⟩
 ·refine .inl ⟨idleD hsz,AP.link hp3 hf (AP.lvd ⟨ae,ρ',F',H',rfl,hq,j1,j4,j5,j6⟩ ?_)⟩;rintro e vs H' ⟨rfl,ho,rfl,E,rfl⟩;have hres:On (⟨Try.prog,G,B⟩:A0) Try.f29 (fl 55 [0,2,3] [.slice false (.rw 0) 0 l.length,.ptr (.rw 1) 0,.ptr (.rw 2) 0]) ([some ⟨1,l⟩,some ⟨1,[.int .i64 (Hd l),.slice true (.ro ks) 0 (rzn l),.slice true (.ro kp) 0 (rzm l)]⟩,some ⟨1,[.int .i64 0]⟩]++E)=some (true,.tup [.agg [.int .i64 (Hd l),.slice true (.ro ks) 0 (rzn l),.slice true (.ro kp) 0 (rzm l)],.int .i64 0]):=by kernel_rfl
  unfold N0;rw [hres];exact ⟨by rw [if_pos ho],_,rfl⟩
 ·refine .inr ⟨rfl,ρ',F',_,hp3.trans j1,j4,j5,hf.trans j6,?_⟩;have k2:=hk 2 (by simp);have k3:=hk 3 (by simp);exact aU5 G B ks kp l (O3 h8) hn hsz (Pb j3 (by omega) c23.1) (Pb j3 (by omega) c23.2) (by rw [k2];exact Pb j3 (by omega) t2) (by rw [k3];exact Pb j3 (by omega) t3)
theorem rd_any (G:Nat→List AV) (B:Nat) (ks kp:Nat) (kd:Nat→Nat) (l:List AV) (h8:I9 l=true) (hL:l.length≤1000000) (g:jF G ks kp kd l):ACalls (⟨Try.prog,G,B⟩:A0) 29 [.slice false (.rw 0) 0 l.length] [some ⟨1,l⟩] fun v H=>v=(if Cu G ks kp l=true then AV.tup [.agg [.int .i64 (Hd l),.slice true (.ro ks) 0 (rzn l),.slice true (.ro kp) 0 (rzm l)],.int .i64 0] else .tup [.agg [.int .i64 0,.nils,.nils],.int .i64 4])∧H=[some ⟨1,l⟩]:=by
 refine (aV8 G B ks kp kd l h8 hL g).view fun v H' ⟨e1,E,e2⟩=>⟨_,_,⟨rfl,rfl⟩,?_⟩;rw [e1,e2];cases Cu G ks kp l with
 | true=>exact C2.same (by simp) (by simp [H9,C4 (O3 h8)]) ⟨⟨by simp [A8,A3],rfl⟩,trivial⟩
 | false=>exact C2.same (by simp) (by simp [H9,C4 (O3 h8)]) ⟨⟨by simp [A8,A3],rfl⟩,trivial⟩
theorem gG {x y:Wd} (h:x ^^^ y=0#32):x=y:=by
 have e:x ^^^ y ^^^ y=x:=by rw [BitVec.xor_assoc,BitVec.xor_self,BitVec.xor_zero]
 rw [←e,h,BitVec.zero_xor]
theorem aT7 {n:Nat} {x y:Wd} (h:Cl n x=Cl n y):x=y:=by
 refine gG (Xy (n:=n) ?_);rw [dL,h,BitVec.xor_self]
theorem aV6 {s t:Wd} {l:List Int} (h:U7 s l=U7 t l):s=t:=by
 have e:=aV5 s (s ^^^ t) l;rw [←BitVec.xor_assoc,BitVec.xor_self,BitVec.zero_xor,←h] at e;refine gG (Xy (n:=8*l.length) ?_);have e2:U7 s l ^^^ U7 s l=U7 s l ^^^ (U7 s l ^^^ Cl (8*l.length) (s ^^^ t)):=congrArg (fun x=>U7 s l ^^^ x) e;rw [BitVec.xor_self,←BitVec.xor_assoc,BitVec.xor_self,BitVec.zero_xor] at e2;exact e2.symm
theorem b8_inj {x y:Int} (hx:0≤x∧x<256) (hy:0≤y∧y<256) (h:Crc.b8 x=Crc.b8 y):x=y:=by
 have:=congrArg BitVec.toNat h
 simp only [Crc.b8,BitVec.toNat_ofInt] at this;omega
theorem aT1 {a b:List Int} {x y:Int} (hx:0≤x∧x<256) (hy:0≤y∧y<256) (h:sum (a++x::b)=sum (a++y::b)):x=y:=by
 unfold Crc.sum at h;have h:=BitVec.not_inj.1 h;rw [Kf,Kf] at h;simp only [U7] at h;have h:=aT7 (aV6 h)
 have e:∀ {s p q:Wd},s ^^^ p=s ^^^ q→p=q:=fun {s p q} h=>by
  have e2:=congrArg (fun x=>s ^^^ x) h;simp only [←BitVec.xor_assoc,BitVec.xor_self,BitVec.zero_xor] at e2;exact e2
 exact b8_inj hx hy (e h)
theorem nO (l:List AV):S2 l 0 l.length=l.map fun v=>A1 [v] 0:=by
 refine List.ext_getElem (by simp [S2]) fun i h1 h2=>?_;simp only [S2,List.getElem_map,List.getElem_range,Nat.zero_add];have h:i<l.length:=by simpa [S2] using h1
 simp [A1,h]
theorem bA1 {a b:List AV} {x y:Int} (hx:0≤x∧x<256) (hy:0≤y∧y<256) (h:Bu (a++.int .u8 x::b)=Bu (a++.int .u8 y::b)):x=y:=by
 unfold Bu at h;rw [nO,nO,List.map_append,List.map_append,List.map_cons,List.map_cons] at h;exact aT1 (x:=x) (y:=y) hx hy (u_inj.1 h)
theorem ks24 (x:Int):O0 .u32 x 24=x / 16777216:=by show x.fdiv 16777216=_;exact Int.fdiv_eq_ediv_of_nonneg x (by decide)
theorem ks16 (x:Int):O0 .u32 x 16=x / 65536:=by show x.fdiv 65536=_;exact Int.fdiv_eq_ediv_of_nonneg x (by decide)
theorem ks8 (x:Int):O0 .u32 x 8=x / 256:=by show x.fdiv 256=_;exact Int.fdiv_eq_ediv_of_nonneg x (by decide)
theorem aT2 (x:Int):I9 (Ev x)=true:=by
 simp only [I9,Ev,List.all_cons,List.all_nil,Go.Am.b8,Hh,zN,xE,Bool.and_true];omega
theorem aE6 {x y:Int} (hx:0≤x∧x<4294967296) (hy:0≤y∧y<4294967296) (h:Ev x=Ev y):x=y:=by
 simp only [Ev,Hh,ks24,ks16,ks8,List.cons.injEq,AV.int.injEq,true_and,and_true] at h;omega
theorem Zq {G:Nat→List AV} {s:Int} {ks kp n m:Nat} (hb:T2 G ks kp n m):I9 (F5 G s (G ks) n (G kp) m)=true:=by
 rw [aL2,Z0,Z0,qS hb,aT2];rfl
theorem tS {a b:List AV} (ha:I9 a=true) (hb:I9 b=true) {j:Nat} {x:Int} (hx:0≤x∧x<256) (hj:j<(a++Ev (Bu a)).length) (hne:A1 (a++Ev (Bu a)) j≠x) (hl:b.length=a.length):b++Ev (Bu b)≠(a++Ev (Bu a)).set j (.int .u8 x):=by
 intro h;have rA:=Kw (sum (S2 a 0 a.length));have rB:=Kw (sum (S2 b 0 b.length));rcases Nat.lt_or_ge j a.length with hj1 | hj1
 ·rw [List.set_append_left _ _ hj1] at h;obtain ⟨h1,h2⟩:=List.append_inj h (by simp [hl]);have e:=aE6 (x:=Bu b) (y:=Bu a) rB rA h2
  have g:a[j]=.int .u8 (A1 a j):=by
   have q:=(Gb ha hj1).1;have e0:=yO hj1;unfold isI at q;unfold A1;rw [e0] at q ⊢;generalize a[j]=v at q ⊢;cases v with
   | int k n=>cases k<;>simp_all
   | _=>simp at q
  have set_eq:∀ v:AV,a.set j v=a.take j++v::a.drop (j+1):=fun v=>by rw [List.set_eq_take_append_cons_drop,if_pos hj1]
  have ea:a=a.take j++.int .u8 (A1 a j)::a.drop (j+1):=by
   rw [←set_eq,←g,List.set_getElem_self]
  have eg:A1 (a++Ev (Bu a)) j=A1 a j:=by unfold A1;rw [wM hj1]
  rw [eg] at hne;have g2:=(Gb ha hj1).2
  have e2:Bu (a.take j++.int .u8 x::a.drop (j+1))=Bu (a.take j++.int .u8 (A1 a j)::a.drop (j+1)):=by
   rw [←set_eq,←h1,e,←ea]
  exact hne (bA1 hx (by omega) e2).symm
 ·rw [List.set_append_right _ _ hj1] at h;obtain ⟨h1,h2⟩:=List.append_inj h hl;rw [h1] at h2;have hk:j - a.length<(Ev (Bu a)).length:=by rw [zA0] at hj;omega
  have eg:A1 (a++Ev (Bu a)) j=A1 (Ev (Bu a)) (j - a.length):=by unfold A1;rw [xN hj1]
  refine hne ?_;rw [eg,h2];unfold A1;rw [List.getElem?_set_self hk]
theorem lM:∀ {a b:List AV},I9 a=true→I9 b=true→O8 a=O8 b→a=b
 | [],[],_,_,_=>rfl
 | [],_::_,_,_,h=>by simp [O8] at h
 | _::_,[],_,_,h=>by simp [O8] at h
 | x::a,y::b,ha,hb,h=>by
  simp only [I9,List.all_cons,zN] at ha hb;simp only [O8,List.map_cons,List.cons.injEq] at h;have e:=lM (a:=a) (b:=b) ha.2 hb.2 h.2
  have e1:x=y:=by
   have h1:=h.1;have a1:=ha.1;have b1:=hb.1;unfold Go.Am.b8 at a1 b1;split at a1
   ·split at b1
    ·rename_i n _ m;simp only [zN,xE] at a1 b1
     have:=congrArg UInt8.toNat h1
     simp only [Tp,UInt8.toNat_ofNat'] at this;congr 1;omega
    ·cases b1
   ·cases a1
  rw [e,e1]
theorem oZ {G:Nat→List AV} {s:Int} {ks kp n m:Nat} (hb:T2 G ks kp n m):I9 (Y9 G s (G ks) n (G kp) m)=true:=by
 rw [jB,Z0,qS hb];rfl
theorem Kr {G:Nat→List AV} {s:Int} {cs ps:List AV} {n m:Nat}:(F5 G s cs n ps m).length=(Y9 G s cs n ps m).length+4:=by rw [F5,zA0];rfl
theorem xF {l:List AV} {j:Nat} {x:Int} (h:I9 l=true) (hx:0≤x∧x<256):I9 (l.set j (.int .u8 x))=true:=by
 simp only [I9,xM] at h ⊢;intro v hv;rcases List.mem_or_eq_of_mem_set hv with hv | rfl
 ·exact h v hv
 ·simp only [Go.Am.b8,zN,xE];omega
theorem aW5 {G:Nat→List AV} {s:Int} {ks kp n m ks' kp' j:Nat} {kd:Nat→Nat} {x:Int} (hb:T2 G ks kp n m) (hL:((F5 G s (G ks) n (G kp) m)).length≤1000000) (hx:0≤x∧x<256) (hj:j<((F5 G s (G ks) n (G kp) m)).length) (hne:A1 (F5 G s (G ks) n (G kp) m) j≠x)
  (g:jF G ks' kp' kd (((F5 G s (G ks) n (G kp) m)).set j (.int .u8 x))):Cu G ks' kp' (((F5 G s (G ks) n (G kp) m)).set j (.int .u8 x))=false:=by
 have h8:I9 (((F5 G s (G ks) n (G kp) m)).set j (.int .u8 x))=true:=xF (Zq hb) hx;have hL':(((F5 G s (G ks) n (G kp) m)).set j (.int .u8 x)).length≤1000000:=by rw [List.length_set];exact hL
 refine rz_no fun o=>?_;have z:=rz_3 h8 hL' (by simp only [Cu,zN] at o;exact o.1);obtain ⟨hb',hw'⟩:=lV g z;have e:F5 G _ (G ks') _ (G kp') _=_:=lM (Zq hb') h8 (eq_of_beq (El o).2.2.2.2.2.2);have le:=congrArg List.length e;rw [List.length_set,Kr,Kr] at le;exact tS (oZ hb) (oZ hb') hx hj hne (Nat.add_right_cancel le) e
def Mi (ks:Nat) (kp:Nat) (n:Nat) (m:Nat) (s:Int):List AV:=[.int .i64 s,.slice true (.ro ks) 0 n,.slice true (.ro kp) 0 m]
def Mh (n:Nat) (m:Nat) (kt:Nat) (kq:Nat) (t:Int):List AV:=[.int .i64 t,.slice true (.ro kt) 0 n,.slice true (.ro kq) 0 m]
def Mg (kd:Nat) (q:Nat) (a:Int) (r:Int) (z:Int):List AV:=[.int .i64 a,.int .i64 r,.slice true (.ro kd) 0 q,.int .i64 z]
def Mf (ke:Nat) (q:Nat) (c:Int) (r:Int) (z:Int):List AV:=[.int .i64 c,.int .i64 r,.slice true (.ro ke) 0 q,.int .i64 z]
theorem kp_p (G:Nat→List AV) (ks kp n m kt kq kd ke q i b v:Nat) (s t a c r z d:Int) (w:Bool) (Q:Ex→List AV→Hp→Prop) (R:AV→Hp→Prop):vT G Q R (G3 (Dc Try.prog [] progIc [] 4) 300 20 4 (A2 Try.f32 2) 98 [2,3,4,6,7,8,9,10,11,12] [.int .i64 (.var 50 d),.ptr (.rw 0) (.lit 0),.ptr (.rw 1) (.lit 0),.bool (.lit false),.int .i64 (.ofN (.var 51 i)),.ptr (.rw 2) (.lit 0),.ptr (.rw 3) (.lit 0),.int .i64 (.ofN (.var 52 b)),.bool (.var 53 w),.int .i64 (.ofN (.var 54 v))] [some ⟨1,.of [.int .i64 (.var 1 s),.slice true (.ro (.var 2 ks)) (.lit 0) (.var 3 n),.slice true (.ro (.var 4 kp)) (.lit 0) (.var 5 m)]⟩,some ⟨1,.of [.int .i64 (.var 21 t),.slice true (.ro (.var 22 kt)) (.lit 0) (.var 3 n),.slice true (.ro (.var 24 kq)) (.lit 0) (.var 5 m)]⟩,some ⟨1,.of [.int .i64 (.var 31 a),.int .i64 (.var 32 r),.slice true (.ro (.var 33 kd)) (.lit 0) (.var 34 q),.int .i64 (.var 35 z)]⟩,some ⟨1,.of [.int .i64 (.var 41 c),.int .i64 (.var 32 r),.slice true (.ro (.var 43 ke)) (.lit 0) (.var 34 q),.int .i64 (.var 35 z)]⟩])=(
  (decide (((v:Int):Int)<(m:Int))=true→decide ((0:Int)≤(v:Int))=true∧decide (((v:Int):Int)<(m:Int))=true∧E5 (G kp) (v*2) [.int .i64,.bool]=true∧(E1 (G kp) (v*2+1)=true→(w=true→Q .normal [.int .i64 d,.ptr (.rw 0) 0,.ptr (.rw 1) 0,.bool false,.int .i64 ((i:Int)),.ptr (.rw 2) 0,.ptr (.rw 3) 0,.int .i64 ((b:Int)),.bool true,.int .i64 (IntKind.wrap .i64 ((v:Int)+1))] [some ⟨1,(Mi ks kp n m s)⟩,some ⟨1,(Mh n m kt kq t)⟩,some ⟨1,(Mg kd q a r z)⟩,some ⟨1,(Mf ke q c r z)⟩,some ⟨1,([.int .i64 (A1 (G kp) (v*2)),.bool (E1 (G kp) (v*2+1))]:List AV)⟩])∧(w=false→(decide ((IntKind.wrap .i64 (a+(b:Int)):Int)≥A1 (G kp) (v*2))=true→Q .normal [.int .i64 d,.ptr (.rw 0) 0,.ptr (.rw 1) 0,.bool false,.int .i64 ((i:Int)),.ptr (.rw 2) 0,.ptr (.rw 3) 0,.int .i64 ((b:Int)),.bool (decide ((IntKind.wrap .i64 (a+(b:Int)):Int)<IntKind.wrap .i64 (A1 (G kp) (v*2)+2))),.int .i64 (IntKind.wrap .i64 ((v:Int)+1))] [some ⟨1,(Mi ks kp n m s)⟩,some ⟨1,(Mh n m kt kq t)⟩,some ⟨1,(Mg kd q a r z)⟩,some ⟨1,(Mf ke q c r z)⟩,some ⟨1,([.int .i64 (A1 (G kp) (v*2)),.bool (E1 (G kp) (v*2+1))]:List AV)⟩])∧(decide ((IntKind.wrap .i64 (a+(b:Int)):Int)≥A1 (G kp) (v*2))=false→Q .normal [.int .i64 d,.ptr (.rw 0) 0,.ptr (.rw 1) 0,.bool false,.int .i64 ((i:Int)),.ptr (.rw 2) 0,.ptr (.rw 3) 0,.int .i64 ((b:Int)),.bool false,.int .i64 (IntKind.wrap .i64 ((v:Int)+1))] [some ⟨1,(Mi ks kp n m s)⟩,some ⟨1,(Mh n m kt kq t)⟩,some ⟨1,(Mg kd q a r z)⟩,some ⟨1,(Mf ke q c r z)⟩,some ⟨1,([.int .i64 (A1 (G kp) (v*2)),.bool (E1 (G kp) (v*2+1))]:List AV)⟩])))∧
 (E1 (G kp) (v*2+1)=false→(w=true→Q .normal [.int .i64 d,.ptr (.rw 0) 0,.ptr (.rw 1) 0,.bool false,.int .i64 ((i:Int)),.ptr (.rw 2) 0,.ptr (.rw 3) 0,.int .i64 ((b:Int)),.bool true,.int .i64 (IntKind.wrap .i64 ((v:Int)+1))] [some ⟨1,(Mi ks kp n m s)⟩,some ⟨1,(Mh n m kt kq t)⟩,some ⟨1,(Mg kd q a r z)⟩,some ⟨1,(Mf ke q c r z)⟩,some ⟨1,([.int .i64 (A1 (G kp) (v*2)),.bool (E1 (G kp) (v*2+1))]:List AV)⟩])∧(w=false→(decide ((IntKind.wrap .i64 (a+(b:Int)):Int)≥A1 (G kp) (v*2))=true→Q .normal [.int .i64 d,.ptr (.rw 0) 0,.ptr (.rw 1) 0,.bool false,.int .i64 ((i:Int)),.ptr (.rw 2) 0,.ptr (.rw 3) 0,.int .i64 ((b:Int)),.bool (decide ((IntKind.wrap .i64 (a+(b:Int)):Int)<IntKind.wrap .i64 (A1 (G kp) (v*2)+4))),.int .i64 (IntKind.wrap .i64 ((v:Int)+1))] [some ⟨1,(Mi ks kp n m s)⟩,some ⟨1,(Mh n m kt kq t)⟩,some ⟨1,(Mg kd q a r z)⟩,some ⟨1,(Mf ke q c r z)⟩,some ⟨1,([.int .i64 (A1 (G kp) (v*2)),.bool (E1 (G kp) (v*2+1))]:List AV)⟩])∧(decide ((IntKind.wrap .i64 (a+(b:Int)):Int)≥A1 (G kp) (v*2))=false→Q .normal [.int .i64 d,.ptr (.rw 0) 0,.ptr (.rw 1) 0,.bool false,.int .i64 ((i:Int)),.ptr (.rw 2) 0,.ptr (.rw 3) 0,.int .i64 ((b:Int)),.bool false,.int .i64 (IntKind.wrap .i64 ((v:Int)+1))] [some ⟨1,(Mi ks kp n m s)⟩,some ⟨1,(Mh n m kt kq t)⟩,some ⟨1,(Mg kd q a r z)⟩,some ⟨1,(Mf ke q c r z)⟩,some ⟨1,([.int .i64 (A1 (G kp) (v*2)),.bool (E1 (G kp) (v*2+1))]:List AV)⟩]))))∧(decide (((v:Int):Int)<(m:Int))=false→
 Q (.exit 4) [.int .i64 d,.ptr (.rw 0) 0,.ptr (.rw 1) 0,.bool false,.int .i64 ((i:Int)),.ptr (.rw 2) 0,.ptr (.rw 3) 0,.int .i64 ((b:Int)),.bool w,.int .i64 ((v:Int))] [some ⟨1,(Mi ks kp n m s)⟩,some ⟨1,(Mh n m kt kq t)⟩,some ⟨1,(Mg kd q a r z)⟩,some ⟨1,(Mf ke q c r z)⟩])):=by kernel_rfl
def Zl (ps:List AV) (x:Int) (j:Nat):Bool:=decide (x≥xP ps j)&&decide (x<xP ps j+P4 (hP ps j))
def Du (ps:List AV) (x:Int):Nat→Bool
 | 0=>false
 | j+1=>Du ps x j||Zl ps x j
theorem hld_1 {ps:List AV} {x:Int} {j:Nat} (h:Du ps x j=true):Du ps x (j+1)=true:=by rw [Du,h];rfl
theorem kI {ps:List AV} {x:Int} {j:Nat} (h:Du ps x j=false):Du ps x (j+1)=Zl ps x j:=by rw [Du,h];rfl
theorem aY0 (G:Nat→List AV) (B:Nat) (ks kp n m kt kq kd ke q i0 b:Nat) (s t a c r z d:Int) (hp:Q4 (G kp) m=true) (hm:m≤1000000) (ha:0≤a∧a≤1000000) (hb:b≤1000000) (hx:∀ j,j<m→0≤xP (G kp) j∧xP (G kp) j≤1000000) :
  AWp (⟨Try.prog,G,B⟩:A0) 4 (.loop (A2 Try.f32 2)) (fl 98 [2,3,4,6,7,8,9,10,11,12] ((fun (i:Nat)=>[AV.int .i64 d,.ptr (.rw 0) 0,.ptr (.rw 1) 0,.bool false,.int .i64 (i0:Int),.ptr (.rw 2) 0,.ptr (.rw 3) 0,.int .i64 (b:Int),.bool (Du (G kp) (a+(b:Int)) i),.int .i64 (i:Int)]) 0)) [some ⟨1,[AV.int .i64 s,.slice true (.ro ks) 0 n,.slice true (.ro kp) 0 m]⟩,some ⟨1,[AV.int .i64 t,.slice true (.ro kt) 0 n,.slice true (.ro kq) 0 m]⟩,some ⟨1,[AV.int .i64 a,.int .i64 r,.slice true (.ro kd) 0 q,.int .i64 z]⟩,some ⟨1,[AV.int .i64 c,.int .i64 r,.slice true (.ro ke) 0 q,.int .i64 z]⟩] (lv 98 [2,3,4,6,7,8,9,10,11,12] fun e vs H=>e=.exit 4∧vs=(fun (i:Nat)=>[AV.int .i64 d,.ptr (.rw 0) 0,.ptr (.rw 1) 0,.bool false,.int .i64 (i0:Int),.ptr (.rw 2) 0,.ptr (.rw 3) 0,.int .i64 (b:Int),.bool (Du (G kp) (a+(b:Int)) i),.int .i64 (i:Int)]) m∧H=[some ⟨1,[AV.int .i64 s,.slice true (.ro ks) 0 n,.slice true (.ro kp) 0 m]⟩,some ⟨1,[AV.int .i64 t,.slice true (.ro kt) 0 n,.slice true (.ro kq) 0 m]⟩,some ⟨1,[AV.int .i64 a,.int .i64 r,.slice true (.ro kd) 0 q,.int .i64 z]⟩,some ⟨1,[AV.int .i64 c,.int .i64 r,.slice true (.ro ke) 0 q,.int .i64 z]⟩]):=by
 refine X7 m (fun (i:Nat)=>[AV.int .i64 d,.ptr (.rw 0) 0,.ptr (.rw 1) 0,.bool false,.int .i64 (i0:Int),.ptr (.rw 2) 0,.ptr (.rw 3) 0,.int .i64 (b:Int),.bool (Du (G kp) (a+(b:Int)) i),.int .i64 (i:Int)]) (fun _=>[some ⟨1,[AV.int .i64 s,.slice true (.ro ks) 0 n,.slice true (.ro kp) 0 m]⟩,some ⟨1,[AV.int .i64 t,.slice true (.ro kt) 0 n,.slice true (.ro kq) 0 m]⟩,some ⟨1,[AV.int .i64 a,.int .i64 r,.slice true (.ro kd) 0 q,.int .i64 z]⟩,some ⟨1,[AV.int .i64 c,.int .i64 r,.slice true (.ro ke) 0 q,.int .i64 z]⟩]) fun v hv=>?_
 refine D1 (C:=(⟨Try.prog,G,B⟩:A0)) (K:=Dc Try.prog [] progIc [] 4) (by rw [show B5 (A2 Try.f32 2)=[] by kernel_rfl];exact D7 (inl:=[]) (ls:=[]) (M:=4) (K6 G B) (by kernel_rfl) (Ft G B) .nil) (fuel:=300) (n0:=20) (m:=4) (c:=A2 Try.f32 2) (vs:=[.int .i64 (.var 50 d),.ptr (.rw 0) (.lit 0),.ptr (.rw 1) (.lit 0),.bool (.lit false),.int .i64 (.ofN (.var 51 i0)),.ptr (.rw 2) (.lit 0),.ptr (.rw 3) (.lit 0),.int .i64 (.ofN (.var 52 b)),.bool (.var 53 (Du (G kp) (a+(b:Int)) v)),.int .i64 (.ofN (.var 54 v))]) (H:=[some ⟨1,.of [.int .i64 (.var 1 s),.slice true (.ro (.var 2 ks)) (.lit 0) (.var 3 n),.slice true (.ro (.var 4 kp)) (.lit 0) (.var 5 m)]⟩,some ⟨1,.of [.int .i64 (.var 21 t),.slice true (.ro (.var 22 kt)) (.lit 0) (.var 3 n),.slice true (.ro (.var 24 kq)) (.lit 0) (.var 5 m)]⟩,some ⟨1,.of [.int .i64 (.var 31 a),.int .i64 (.var 32 r),.slice true (.ro (.var 33 kd)) (.lit 0) (.var 34 q),.int .i64 (.var 35 z)]⟩,some ⟨1,.of [.int .i64 (.var 41 c),.int .i64 (.var 32 r),.slice true (.ro (.var 43 ke)) (.lit 0) (.var 34 q),.int .i64 (.var 35 z)]⟩]) (by simp) ?_
 rw [kp_p];have fb:H9 4 [some ⟨1,[AV.int .i64 s,.slice true (.ro ks) 0 n,.slice true (.ro kp) 0 m]⟩,some ⟨1,[AV.int .i64 t,.slice true (.ro kt) 0 n,.slice true (.ro kq) 0 m]⟩,some ⟨1,[AV.int .i64 a,.int .i64 r,.slice true (.ro kd) 0 q,.int .i64 z]⟩,some ⟨1,[AV.int .i64 c,.int .i64 r,.slice true (.ro ke) 0 q,.int .i64 z]⟩]=true:=by simp [H9,A3,A8]
 refine ⟨fun h1=>?_,fun h1=>?_⟩
 ·have h1':=yL h1;have hvm:v<m:=by omega
  have hx':0≤A1 (G kp) (v*2)∧A1 (G kp) (v*2)≤1000000:=hx v hvm;rw [B6 (n:=(v:Int)+1) (by omega),B6 (n:=a+(b:Int)) (by omega),B6 (n:=A1 (G kp) (v*2)+2) (by omega),B6 (n:=A1 (G kp) (v*2)+4) (by omega)];refine ⟨yM (by omega),h1,(S1 hp hvm).1,fun hP1=>⟨fun w1=>?_,fun w1=>⟨fun g1=>?_,fun g1=>?_⟩⟩,fun hP1=>⟨fun w1=>?_,fun w1=>⟨fun g1=>?_,fun g1=>?_⟩⟩⟩
  ·exact ⟨hvm,.inr (C2.same (H:=[some ⟨1,[AV.int .i64 s,.slice true (.ro ks) 0 n,.slice true (.ro kp) 0 m]⟩,some ⟨1,[AV.int .i64 t,.slice true (.ro kt) 0 n,.slice true (.ro kq) 0 m]⟩,some ⟨1,[AV.int .i64 a,.int .i64 r,.slice true (.ro kd) 0 q,.int .i64 z]⟩,some ⟨1,[AV.int .i64 c,.int .i64 r,.slice true (.ro ke) 0 q,.int .i64 z]⟩]) (by simp) fb (by simp [fv,A8,A3,hld_1 w1]))⟩
  ·have e:Du (G kp) (a+(b:Int)) (v+1)=decide (a+(b:Int)<A1 (G kp) (v*2)+2):=by
    rw [kI w1];unfold Zl xP hP;rw [hP1,g1];rfl
   exact ⟨hvm,.inr (C2.same (H:=[some ⟨1,[AV.int .i64 s,.slice true (.ro ks) 0 n,.slice true (.ro kp) 0 m]⟩,some ⟨1,[AV.int .i64 t,.slice true (.ro kt) 0 n,.slice true (.ro kq) 0 m]⟩,some ⟨1,[AV.int .i64 a,.int .i64 r,.slice true (.ro kd) 0 q,.int .i64 z]⟩,some ⟨1,[AV.int .i64 c,.int .i64 r,.slice true (.ro ke) 0 q,.int .i64 z]⟩]) (by simp) fb (by simp [fv,A8,A3,e]))⟩
  ·have e:Du (G kp) (a+(b:Int)) (v+1)=false:=by
    rw [kI w1];unfold Zl xP;rw [g1];rfl
   exact ⟨hvm,.inr (C2.same (H:=[some ⟨1,[AV.int .i64 s,.slice true (.ro ks) 0 n,.slice true (.ro kp) 0 m]⟩,some ⟨1,[AV.int .i64 t,.slice true (.ro kt) 0 n,.slice true (.ro kq) 0 m]⟩,some ⟨1,[AV.int .i64 a,.int .i64 r,.slice true (.ro kd) 0 q,.int .i64 z]⟩,some ⟨1,[AV.int .i64 c,.int .i64 r,.slice true (.ro ke) 0 q,.int .i64 z]⟩]) (by simp) fb (by simp [fv,A8,A3,e]))⟩
  ·exact ⟨hvm,.inr (C2.same (H:=[some ⟨1,[AV.int .i64 s,.slice true (.ro ks) 0 n,.slice true (.ro kp) 0 m]⟩,some ⟨1,[AV.int .i64 t,.slice true (.ro kt) 0 n,.slice true (.ro kq) 0 m]⟩,some ⟨1,[AV.int .i64 a,.int .i64 r,.slice true (.ro kd) 0 q,.int .i64 z]⟩,some ⟨1,[AV.int .i64 c,.int .i64 r,.slice true (.ro ke) 0 q,.int .i64 z]⟩]) (by simp) fb (by simp [fv,A8,A3,hld_1 w1]))⟩
  ·have e:Du (G kp) (a+(b:Int)) (v+1)=decide (a+(b:Int)<A1 (G kp) (v*2)+4):=by
    rw [kI w1];unfold Zl xP hP;rw [hP1,g1];rfl
   exact ⟨hvm,.inr (C2.same (H:=[some ⟨1,[AV.int .i64 s,.slice true (.ro ks) 0 n,.slice true (.ro kp) 0 m]⟩,some ⟨1,[AV.int .i64 t,.slice true (.ro kt) 0 n,.slice true (.ro kq) 0 m]⟩,some ⟨1,[AV.int .i64 a,.int .i64 r,.slice true (.ro kd) 0 q,.int .i64 z]⟩,some ⟨1,[AV.int .i64 c,.int .i64 r,.slice true (.ro ke) 0 q,.int .i64 z]⟩]) (by simp) fb (by simp [fv,A8,A3,e]))⟩
  ·have e:Du (G kp) (a+(b:Int)) (v+1)=false:=by
    rw [kI w1];unfold Zl xP;rw [g1];rfl
   exact ⟨hvm,.inr (C2.same (H:=[some ⟨1,[AV.int .i64 s,.slice true (.ro ks) 0 n,.slice true (.ro kp) 0 m]⟩,some ⟨1,[AV.int .i64 t,.slice true (.ro kt) 0 n,.slice true (.ro kq) 0 m]⟩,some ⟨1,[AV.int .i64 a,.int .i64 r,.slice true (.ro kd) 0 q,.int .i64 z]⟩,some ⟨1,[AV.int .i64 c,.int .i64 r,.slice true (.ro ke) 0 q,.int .i64 z]⟩]) (by simp) fb (by simp [fv,A8,A3,e]))⟩
 ·have h1':=yP h1;have e:v=m:=by omega
  subst e;exact ⟨rfl,rfl,rfl⟩
end Go.Am
