/-
  Images moved: the reference's copy: its loop, frozen to what it is a c Images moved: the reference's copy: the call.
-/
import Derived.Test.YthejjolnlngahaaPart17
import Derived.Test.YthejjolnlngahaaPart10
import Derived.Test.YthejjolnlngahaaBase5
import Derived.Test.YthejjolnlngahaaBase3
import Derived.Test.YthejjolnlngahaaProg
namespace Go.Am
open Go.Proofs
set_option maxRecDepth 100000
structure Tk (G:Nat→List AV) (ks kp n m:Nat):Prop where
 sec:(G ks)=A7 (G ks) n (dR (G ks))
 off:∀ j,j<n→G1 (G ks) (j*4+2)=0
 dat:∀ j,j<n→G (E7 (G ks) (j*4+2))=N8 G (G ks) j
 pls:(G kp)=(B1 (xP (G kp)) (G kp) m)
theorem rL {q k:Nat} {a b:List AV}:fzs q k (a++b)=fzs q k a++fzs q k b:=by rw [X1,X1,X1,List.map_append]
theorem mT {cs:List AV} {n:Nat}:∀ v∈A7 cs n (dR cs),E6 v=true:=fun v hv=>by
 unfold A7 M9 at hv;obtain ⟨j,hj,rfl⟩:=List.mem_map.1 hv;have hb:j % 4<4:=Nat.mod_lt _ (by omega);generalize j % 4=b at hb
 match b,hb with
 | 0,_=>rfl
 | 1,_=>rfl
 | 2,_=>rfl
 | 3,_=>rfl
def hJ (G:Nat→List AV) (ks kp n m:Nat) (s:Int) (i:Nat):Hp:=[some ⟨1,[.int .i64 s,.slice true (.ro ks) 0 n,.slice true (.ro kp) 0 m]⟩,some ⟨1,[.int .i64 0,.nils,.nils]⟩,some ⟨2,(B1 (xP (G kp)) (G kp) m)⟩,oB s 4 i m,some ⟨4,A7 (G ks) i (dR (G ks))⟩]
theorem Zj {cs:List AV} {i:Nat}:A5 0 (A7 cs i (dR cs))=true:=Bo fun j hj=>rfl
theorem sC (G:Nat→List AV) (B:Nat) (ks kp n m:Nat) (s:Int) (hb:Bx G ks kp n m) (hw:Tk G ks kp n m) (h20:n≤20):AWp (⟨Try.prog,G,B⟩:A2) 0 (.loop (A4 Try.f12 0)) (fl 35 [1,2,3,4] [.ptr (.rw 0) 0,.ptr (.rw 1) 0,.ptr (.rw 3) 0,.int .i64 0]) [some ⟨1,[.int .i64 s,.slice true (.ro ks) 0 n,.slice true (.ro kp) 0 m]⟩,some ⟨1,[.int .i64 0,.nils,.nils]⟩,some ⟨2,(B1 (xP (G kp)) (G kp) m)⟩,some ⟨1,[.int .i64 s,.nils,.slice true (.rw 2) 0 m]⟩] (lv 35 [1,2,3,4] fun e vs H=>e=.exit 0∧wk [.ptr (.rw 0) 0,.ptr (.rw 1) 0,.ptr (.rw 3) 0,.undef] vs∧H=[some ⟨1,[.int .i64 s,.slice true (.ro ks) 0 n,.slice true (.ro kp) 0 m]⟩,some ⟨1,[.int .i64 0,.nils,.nils]⟩,none,some ⟨1,[.int .i64 s,.slice true (.ro ks) 0 n,.slice true (.ro kp) 0 m]⟩,none]):=by
 have key:AWp (⟨Try.prog,G,B⟩:A2) 0 (.loop (A4 Try.f12 0)) (fl 35 [1,2,3,4] [.ptr (.rw 0) 0,.ptr (.rw 1) 0,.ptr (.rw 3) 0,.int .i64 0]) [some ⟨1,[.int .i64 s,.slice true (.ro ks) 0 n,.slice true (.ro kp) 0 m]⟩,some ⟨1,[.int .i64 0,.nils,.nils]⟩,some ⟨2,(B1 (xP (G kp)) (G kp) m)⟩,some ⟨1,[.int .i64 s,.nils,.slice true (.rw 2) 0 m]⟩] (lv 35 [1,2,3,4] fun e vs H=>e=.exit 0∧wk [.ptr (.rw 0) 0,.ptr (.rw 1) 0,.ptr (.rw 3) 0,.undef] vs∧H=hJ G ks kp n m s n):=by
  refine AWp.nil (F:=fl 35 [1,2,3,4] [.ptr (.rw 0) 0,.ptr (.rw 1) 0,.ptr (.rw 3) 0,.int .i64 0]) (H:=[some ⟨1,[.int .i64 s,.slice true (.ro ks) 0 n,.slice true (.ro kp) 0 m]⟩,some ⟨1,[.int .i64 0,.nils,.nils]⟩,some ⟨2,(B1 (xP (G kp)) (G kp) m)⟩,oB s 4 0 m]) 4 (Nat.zero_le _) (K3 _) ?_ ?_
  ·exact ⟨⟨rfl,K3 _⟩,⟨rfl,K3 _⟩,⟨rfl,K3 _⟩,⟨rfl,.inl rfl,.inr ⟨rfl,rfl⟩,.inl rfl,trivial⟩,trivial⟩
  show AWp (⟨Try.prog,G,B⟩:A2) 0 (.loop (A4 Try.f12 0)) _ (hJ G ks kp n m s 0) _;refine S0 n (fun i=>[.ptr (.rw 0) 0,.ptr (.rw 1) 0,.ptr (.rw 3) 0,.int .i64 (i:Int)]) (hJ G ks kp n m s) fun i hi=>?_;by_cases hin:i<n
  ·obtain ⟨_,_,hd⟩:=U8.1 hb.cp;obtain ⟨⟨c1,c2⟩,c3,_⟩:=J0.1 (hd i hin);rw [Nat.mul_one] at c1 c2;obtain ⟨b,_,b2⟩:=hb.dat i hin
   refine AWp.frzL (Q:=fun e vs H=>e=.normal∧vs=[.ptr (.rw 0) 0,.ptr (.rw 1) 0,.ptr (.rw 3) 0,.int .i64 ((i+1:Nat):Int)]∧H=[some ⟨1,[.int .i64 s,.slice true (.ro ks) 0 n,.slice true (.ro kp) 0 m]⟩,some ⟨1,[.int .i64 0,.nils,.nils]⟩,some ⟨2,(B1 (xP (G kp)) (G kp) m)⟩,oB s 8 (i+1) m,none,some ⟨1,[.int .i64 (sA (G ks) i),.int .i64 (sR (G ks) i),.slice true (.rw 6) 0 (sN (G ks) i),.int .i64 (sZ (G ks) i)]⟩,some ⟨1,N8 G (G ks) i⟩,some ⟨4,[.int .i64 (sA (G ks) i),.int .i64 (sR (G ks) i),.slice true (.rw 6) 0 (sN (G ks) i),.int .i64 (sZ (G ks) i)]⟩,some ⟨4,A7 (G ks) i (dR (G ks))++[.int .i64 (sA (G ks) i),.int .i64 (sR (G ks) i),.slice true (.rw 6) 0 (sN (G ks) i),.int .i64 (sZ (G ks) i)]⟩]) 6 (E7 (G ks) (i*4+2)) ?_ ?_
   ·refine D3 (C:=(⟨Try.prog,G,B⟩:A2)) (K:=Dc Try.prog [] [] [] 0) (by rw [show A8 (A4 Try.f12 0)=[] by kernel_rfl];exact I0 (E9 G B) (by kernel_rfl) .nil .nil) (fuel:=300) (n0:=20) (m:=0) (c:=A4 Try.f12 0) (vs:=[.ptr (.rw 0) (.lit 0),.ptr (.rw 1) (.lit 0),.ptr (.rw 3) (.lit 0),.int .i64 (.ofN (.var 8 i))]) (H:=[some ⟨1,.of [.int .i64 (.var 1 s),.slice true (.ro (.var 24 ks)) (.lit 0) (.var 3 n),.slice true (.ro (.var 25 kp)) (.lit 0) (.var 4 m)]⟩,some ⟨1,.of [.int .i64 (.lit 0),.nils,.nils]⟩,some ⟨2,.var 7 (B1 (xP (G kp)) (G kp) m)⟩,some ⟨1,.of [.int .i64 (.var 1 s),.slice true (.rw 4) (.lit 0) (.var 8 i),.slice true (.rw 2) (.lit 0) (.var 4 m)]⟩,some ⟨4,.var 21 (A7 (G ks) i (dR (G ks)))⟩]) (Nat.zero_le _) ?_
    rw [rc_b];refine ⟨fun h1=>?_,fun h1=>absurd (of_decide_eq_false h1) (by omega)⟩;rw [B6 (n:=(i:Int)+1) (by omega)];exact ⟨decide_eq_true (by omega),h1,L9 hb.sec hin,c1,c2,C6.2 (Nat.le_trans c3 (by omega)),C6.2 (by omega),by rw [Dk];exact Nat.beq_refl _,rfl,rfl,rfl⟩
   ·rintro e vs H' ⟨rfl,rfl,rfl⟩;refine ⟨⟨_,rfl,rfl,fun j v hj=>?_⟩,hin,.inr ?_⟩
    ·have hj:(G (E7 (G ks) (i*4+2)))[j]?=some v:=hj;rw [hw.dat i hin] at hj;refine ⟨v,hj,?_,.rfl⟩;rw [b2] at hj;exact cG v (List.mem_of_getElem? hj)
    ·have f0:∀ {l:List AV},A5 0 l=true→fzs 6 (E7 (G ks) (i*4+2)) l=l:=fun h=>Al (n:=0) (Nat.zero_le _) _ h
     have eS:fzs 6 (E7 (G ks) (i*4+2)) (A7 (G ks) i (dR (G ks))++[.int .i64 (sA (G ks) i),.int .i64 (sR (G ks) i),.slice true (.rw 6) 0 (sN (G ks) i),.int .i64 (sZ (G ks) i)])=A7 (G ks) (i+1) (dR (G ks)):=by
      rw [rL,f0 Zj,Zi]
      have:dR (G ks) i=.slice true (.ro (E7 (G ks) (i*4+2))) 0 (sN (G ks) i):=by unfold dR;rw [hw.off i hin]
      rw [this];rfl
     have eH:Da 6 (E7 (G ks) (i*4+2)) [some ⟨1,[.int .i64 s,.slice true (.ro ks) 0 n,.slice true (.ro kp) 0 m]⟩,some ⟨1,[.int .i64 0,.nils,.nils]⟩,some ⟨2,(B1 (xP (G kp)) (G kp) m)⟩,oB s 8 (i+1) m,none,some ⟨1,[.int .i64 (sA (G ks) i),.int .i64 (sR (G ks) i),.slice true (.rw 6) 0 (sN (G ks) i),.int .i64 (sZ (G ks) i)]⟩,some ⟨1,N8 G (G ks) i⟩,some ⟨4,[.int .i64 (sA (G ks) i),.int .i64 (sR (G ks) i),.slice true (.rw 6) 0 (sN (G ks) i),.int .i64 (sZ (G ks) i)]⟩,some ⟨4,A7 (G ks) i (dR (G ks))++[.int .i64 (sA (G ks) i),.int .i64 (sR (G ks) i),.slice true (.rw 6) 0 (sN (G ks) i),.int .i64 (sZ (G ks) i)]⟩]=[some ⟨1,[.int .i64 s,.slice true (.ro ks) 0 n,.slice true (.ro kp) 0 m]⟩,some ⟨1,[.int .i64 0,.nils,.nils]⟩,some ⟨2,fzs 6 (E7 (G ks) (i*4+2)) (B1 (xP (G kp)) (G kp) m)⟩,oB s 8 (i+1) m,none,some ⟨1,fzs 6 (E7 (G ks) (i*4+2)) [.int .i64 (sA (G ks) i),.int .i64 (sR (G ks) i),.slice true (.rw 6) 0 (sN (G ks) i),.int .i64 (sZ (G ks) i)]⟩,none,some ⟨4,fzs 6 (E7 (G ks) (i*4+2)) [.int .i64 (sA (G ks) i),.int .i64 (sR (G ks) i),.slice true (.rw 6) 0 (sN (G ks) i),.int .i64 (sZ (G ks) i)]⟩,some ⟨4,fzs 6 (E7 (G ks) (i*4+2)) (A7 (G ks) i (dR (G ks))++[.int .i64 (sA (G ks) i),.int .i64 (sR (G ks) i),.slice true (.rw 6) 0 (sN (G ks) i),.int .i64 (sZ (G ks) i)])⟩]:=rfl
     rw [eH,eS,f0 J1];refine B7.renM (H:=hJ G ks kp n m s (i+1)) (θ:=[0,1,2,3,8]) (Nat.zero_le _) (fun i hi=>absurd hi (Nat.not_lt_zero i)) (by decide) ⟨⟨rfl,rfl⟩,⟨rfl,rfl⟩,⟨J1,by rw [F5 [0,1,2,3,8] _ J1];rfl⟩,⟨rfl,rfl⟩,⟨H6 (Nat.zero_le _) _ Zj,by rw [F5 [0,1,2,3,8] _ Zj];rfl⟩,trivial⟩ rfl ?_;exact ⟨rfl,rfl,rfl,rfl,trivial⟩
  ·have ein:n=i:=by omega
   subst ein
   refine D3 (C:=(⟨Try.prog,G,B⟩:A2)) (K:=Dc Try.prog [] [] [] 0) (by rw [show A8 (A4 Try.f12 0)=[] by kernel_rfl];exact I0 (E9 G B) (by kernel_rfl) .nil .nil) (fuel:=300) (n0:=20) (m:=0) (c:=A4 Try.f12 0) (vs:=[.ptr (.rw 0) (.lit 0),.ptr (.rw 1) (.lit 0),.ptr (.rw 3) (.lit 0),.int .i64 (.ofN (.var 8 n))]) (H:=[some ⟨1,.of [.int .i64 (.var 1 s),.slice true (.ro (.var 24 ks)) (.lit 0) (.var 3 n),.slice true (.ro (.var 25 kp)) (.lit 0) (.var 4 m)]⟩,some ⟨1,.of [.int .i64 (.lit 0),.nils,.nils]⟩,some ⟨2,.var 7 (B1 (xP (G kp)) (G kp) m)⟩,some ⟨1,.of [.int .i64 (.var 1 s),.slice true (.rw 4) (.lit 0) (.var 8 n),.slice true (.rw 2) (.lit 0) (.var 4 m)]⟩,some ⟨4,.var 21 (A7 (G ks) n (dR (G ks)))⟩]) (Nat.zero_le _) ?_
   rw [rc_b];exact ⟨fun h1=>absurd (of_decide_eq_true h1) (by omega),fun h1=>⟨rfl,by simp [vVs,vV,vI,wk],rfl⟩⟩
 refine AWp.frzL 2 kp (AWp.frzL (Q':=fun e vs H=>e=.exit 0∧wk [.ptr (.rw 0) 0,.ptr (.rw 1) 0,.ptr (.rw 3) 0,.undef] vs∧H=[some ⟨1,[.int .i64 s,.slice true (.ro ks) 0 n,.slice true (.ro kp) 0 m]⟩,some ⟨1,[.int .i64 0,.nils,.nils]⟩,some ⟨2,(B1 (xP (G kp)) (G kp) m)⟩,some ⟨1,[.int .i64 s,.slice true (.ro ks) 0 n,.slice true (.rw 2) 0 m]⟩,none]) 4 ks key ?_) ?_
 ·rintro e vs H' ⟨rfl,w,rfl⟩;refine ⟨⟨_,rfl,rfl,fun j v hj=>?_⟩,rfl,Bz (m:=4) (k:=ks) w,?_⟩
  ·have hj:(G ks)[j]?=some v:=hj;rw [hw.sec] at hj;exact ⟨v,hj,mT v (List.mem_of_getElem? hj),.rfl⟩
  ·show ([some ⟨1,[.int .i64 s,.slice true (.ro ks) 0 n,.slice true (.ro kp) 0 m]⟩,some ⟨1,[.int .i64 0,.nils,.nils]⟩,some ⟨2,fzs 4 ks (B1 (xP (G kp)) (G kp) m)⟩,some ⟨1,[.int .i64 s,.slice true (.ro ks) 0 n,.slice true (.rw 2) 0 m]⟩,none]:Hp)=_;rw [Al (n:=0) (Nat.zero_le _) _ J1]
 ·rintro e vs H' ⟨rfl,w,rfl⟩;refine ⟨⟨_,rfl,rfl,fun j v hj=>?_⟩,rfl,Bz (m:=2) (k:=kp) w,rfl⟩;have hj:(G kp)[j]?=some v:=hj;rw [hw.pls] at hj;exact ⟨v,hj,Py v (List.mem_of_getElem? hj),.rfl⟩
end Go.Am
namespace Go.Am
open Go.Proofs
set_option maxRecDepth 100000
theorem lQ (G:Nat→List AV) (B:Nat) (ks kp n m:Nat) (s:Int) (hb:Bx G ks kp n m) (h8:n≤8):AWp (⟨Try.prog,G,B⟩:A2) 0 (I2 (I2 (B8 Try.f12))) (fl 35 [1,2,3] [.ptr (.rw 0) 0,.ptr (.rw 1) 0,.ptr (.rw 3) 0]) [some ⟨1,[.int .i64 s,.slice true (.ro ks) 0 n,.slice true (.ro kp) 0 m]⟩,some ⟨1,[.int .i64 0,.nils,.nils]⟩,some ⟨2,(B1 (xP (G kp)) (G kp) m)⟩,some ⟨1,[.int .i64 s,.nils,.slice true (.rw 2) 0 m]⟩] (lv 35 [1,2,3] fun e vs H=>e=.ret∧vs=[.ptr (.rw 0) 0,.ptr (.rw 1) 0,.ptr (.rw 3) 0]∧H=([some ⟨1,[.int .i64 s,.slice true (.ro ks) 0 n,.slice true (.ro kp) 0 m]⟩,some ⟨1,[.int .i64 s,.slice true (.rw 12) 0 n,.slice true (.rw 2) 0 m]⟩,some ⟨2,(B1 (xP (G kp)) (G kp) m)⟩,some ⟨1,[.int .i64 s,.slice true (.rw 12) 0 n,.slice true (.rw 2) 0 m]⟩]++(L5 (A1 (dB0 G (G ks) n))++[some ⟨4,(A7 (G ks) n (dW 4 (G ks)))⟩]))):=by
 have l0:H7 (⟨Try.prog,G,B⟩:A2) 0 (A4 Try.f12 0) (C3 1850 (G8 [.ptr (.rw 0) 0,.ptr (.rw 1) 0,.ptr (.rw 3) 0,.int .i64 0] [some ⟨1,[.int .i64 s,.slice true (.ro ks) 0 n,.slice true (.ro kp) 0 m]⟩,some ⟨1,[.int .i64 0,.nils,.nils]⟩,some ⟨2,(B1 (xP (G kp)) (G kp) m)⟩,some ⟨1,[.int .i64 s,.nils,.slice true (.rw 2) 0 m]⟩]) 0 35 [1,2,3,4] (.one (.exit 0) [.ptr (.rw 0) (.lit 0),.ptr (.rw 1) (.lit 0),.ptr (.rw 3) (.lit 0),.undef] [some ⟨1,.of [.int .i64 (.var 1 s),.slice true (.ro (.var 24 ks)) (.lit 0) (.var 3 n),.slice true (.ro (.var 25 kp)) (.lit 0) (.var 4 m)]⟩,some ⟨1,.of [.int .i64 (.lit 0),.nils,.nils]⟩,some ⟨2,.var 7 (B1 (xP (G kp)) (G kp) m)⟩,some ⟨1,.of [.int .i64 (.var 1 s),.slice true (.rw 12) (.lit 0) (.var 3 n),.slice true (.rw 2) (.lit 0) (.var 4 m)]⟩,some ⟨1,.row (.var 22 (A1 (dB0 G (G ks) n))) (.lit 0)⟩,some ⟨1,.row (.var 22 (A1 (dB0 G (G ks) n))) (.lit 1)⟩,some ⟨1,.row (.var 22 (A1 (dB0 G (G ks) n))) (.lit 2)⟩,some ⟨1,.row (.var 22 (A1 (dB0 G (G ks) n))) (.lit 3)⟩,some ⟨1,.row (.var 22 (A1 (dB0 G (G ks) n))) (.lit 4)⟩,some ⟨1,.row (.var 22 (A1 (dB0 G (G ks) n))) (.lit 5)⟩,some ⟨1,.row (.var 22 (A1 (dB0 G (G ks) n))) (.lit 6)⟩,some ⟨1,.row (.var 22 (A1 (dB0 G (G ks) n))) (.lit 7)⟩,some ⟨4,.var 21 (A7 (G ks) n (dW 4 (G ks)))⟩])):=N2 rfl ((sF G B ks kp n m s (B1 (xP (G kp)) (G kp) m) hb h8 J1).lmono fun e vs H ⟨h1,q,h2⟩=>⟨h1,.inl ⟨q,h2⟩⟩)
 refine D3 (C:=(⟨Try.prog,G,B⟩:A2)) (K:=Dc Try.prog [] [] [C3 1850 (G8 [.ptr (.rw 0) 0,.ptr (.rw 1) 0,.ptr (.rw 3) 0,.int .i64 0] [some ⟨1,[.int .i64 s,.slice true (.ro ks) 0 n,.slice true (.ro kp) 0 m]⟩,some ⟨1,[.int .i64 0,.nils,.nils]⟩,some ⟨2,(B1 (xP (G kp)) (G kp) m)⟩,some ⟨1,[.int .i64 s,.nils,.slice true (.rw 2) 0 m]⟩]) 0 35 [1,2,3,4] (.one (.exit 0) [.ptr (.rw 0) (.lit 0),.ptr (.rw 1) (.lit 0),.ptr (.rw 3) (.lit 0),.undef] [some ⟨1,.of [.int .i64 (.var 1 s),.slice true (.ro (.var 24 ks)) (.lit 0) (.var 3 n),.slice true (.ro (.var 25 kp)) (.lit 0) (.var 4 m)]⟩,some ⟨1,.of [.int .i64 (.lit 0),.nils,.nils]⟩,some ⟨2,.var 7 (B1 (xP (G kp)) (G kp) m)⟩,some ⟨1,.of [.int .i64 (.var 1 s),.slice true (.rw 12) (.lit 0) (.var 3 n),.slice true (.rw 2) (.lit 0) (.var 4 m)]⟩,some ⟨1,.row (.var 22 (A1 (dB0 G (G ks) n))) (.lit 0)⟩,some ⟨1,.row (.var 22 (A1 (dB0 G (G ks) n))) (.lit 1)⟩,some ⟨1,.row (.var 22 (A1 (dB0 G (G ks) n))) (.lit 2)⟩,some ⟨1,.row (.var 22 (A1 (dB0 G (G ks) n))) (.lit 3)⟩,some ⟨1,.row (.var 22 (A1 (dB0 G (G ks) n))) (.lit 4)⟩,some ⟨1,.row (.var 22 (A1 (dB0 G (G ks) n))) (.lit 5)⟩,some ⟨1,.row (.var 22 (A1 (dB0 G (G ks) n))) (.lit 6)⟩,some ⟨1,.row (.var 22 (A1 (dB0 G (G ks) n))) (.lit 7)⟩,some ⟨4,.var 21 (A7 (G ks) n (dW 4 (G ks)))⟩])] 0) ?_ (fuel:=300) (n0:=20) (m:=0) (c:=I2 (I2 (B8 Try.f12))) (vs:=[.ptr (.rw 0) (.lit 0),.ptr (.rw 1) (.lit 0),.ptr (.rw 3) (.lit 0)]) (H:=[some ⟨1,.of [.int .i64 (.var 1 s),.slice true (.ro (.var 24 ks)) (.lit 0) (.var 3 n),.slice true (.ro (.var 25 kp)) (.lit 0) (.var 4 m)]⟩,some ⟨1,.of [.int .i64 (.lit 0),.nils,.nils]⟩,some ⟨2,.var 7 (B1 (xP (G kp)) (G kp) m)⟩,some ⟨1,.of [.int .i64 (.var 1 s),.nils,.slice true (.rw 2) (.lit 0) (.var 4 m)]⟩]) (Nat.zero_le _) ?_
 ·exact I0 (E9 G B) (by kernel_rfl) .nil (.cast (.cons (i:=0) (by kernel_rfl) rfl l0 .nil) (by kernel_rfl))
 ·rw [rc_2a];exact ⟨D4,rfl,rfl,rfl⟩
theorem lP (G:Nat→List AV) (B:Nat) (ks kp n m:Nat) (s:Int) (hb:Bx G ks kp n m) (hw:Tk G ks kp n m) (h20:n≤20):AWp (⟨Try.prog,G,B⟩:A2) 0 (I2 (I2 (B8 Try.f12))) (fl 35 [1,2,3] [.ptr (.rw 0) 0,.ptr (.rw 1) 0,.ptr (.rw 3) 0]) [some ⟨1,[.int .i64 s,.slice true (.ro ks) 0 n,.slice true (.ro kp) 0 m]⟩,some ⟨1,[.int .i64 0,.nils,.nils]⟩,some ⟨2,(B1 (xP (G kp)) (G kp) m)⟩,some ⟨1,[.int .i64 s,.nils,.slice true (.rw 2) 0 m]⟩] (lv 35 [1,2,3] fun e vs H=>e=.ret∧vs=[.ptr (.rw 0) 0,.ptr (.rw 1) 0,.ptr (.rw 3) 0]∧H=[some ⟨1,[.int .i64 s,.slice true (.ro ks) 0 n,.slice true (.ro kp) 0 m]⟩,some ⟨1,[.int .i64 s,.slice true (.ro ks) 0 n,.slice true (.ro kp) 0 m]⟩,none,some ⟨1,[.int .i64 s,.slice true (.ro ks) 0 n,.slice true (.ro kp) 0 m]⟩,none]):=by
 have l0:H7 (⟨Try.prog,G,B⟩:A2) 0 (A4 Try.f12 0) (C3 1850 (G8 [.ptr (.rw 0) 0,.ptr (.rw 1) 0,.ptr (.rw 3) 0,.int .i64 0] [some ⟨1,[.int .i64 s,.slice true (.ro ks) 0 n,.slice true (.ro kp) 0 m]⟩,some ⟨1,[.int .i64 0,.nils,.nils]⟩,some ⟨2,(B1 (xP (G kp)) (G kp) m)⟩,some ⟨1,[.int .i64 s,.nils,.slice true (.rw 2) 0 m]⟩]) 0 35 [1,2,3,4] (.one (.exit 0) [.ptr (.rw 0) (.lit 0),.ptr (.rw 1) (.lit 0),.ptr (.rw 3) (.lit 0),.undef] [some ⟨1,.of [.int .i64 (.var 1 s),.slice true (.ro (.var 24 ks)) (.lit 0) (.var 3 n),.slice true (.ro (.var 25 kp)) (.lit 0) (.var 4 m)]⟩,some ⟨1,.of [.int .i64 (.lit 0),.nils,.nils]⟩,none,some ⟨1,.of [.int .i64 (.var 1 s),.slice true (.ro (.var 24 ks)) (.lit 0) (.var 3 n),.slice true (.ro (.var 25 kp)) (.lit 0) (.var 4 m)]⟩,none])):=N2 rfl ((sC G B ks kp n m s hb hw h20).lmono fun e vs H ⟨h1,q,h2⟩=>⟨h1,.inl ⟨q,h2⟩⟩)
 refine D3 (C:=(⟨Try.prog,G,B⟩:A2)) (K:=Dc Try.prog [] [] [C3 1850 (G8 [.ptr (.rw 0) 0,.ptr (.rw 1) 0,.ptr (.rw 3) 0,.int .i64 0] [some ⟨1,[.int .i64 s,.slice true (.ro ks) 0 n,.slice true (.ro kp) 0 m]⟩,some ⟨1,[.int .i64 0,.nils,.nils]⟩,some ⟨2,(B1 (xP (G kp)) (G kp) m)⟩,some ⟨1,[.int .i64 s,.nils,.slice true (.rw 2) 0 m]⟩]) 0 35 [1,2,3,4] (.one (.exit 0) [.ptr (.rw 0) (.lit 0),.ptr (.rw 1) (.lit 0),.ptr (.rw 3) (.lit 0),.undef] [some ⟨1,.of [.int .i64 (.var 1 s),.slice true (.ro (.var 24 ks)) (.lit 0) (.var 3 n),.slice true (.ro (.var 25 kp)) (.lit 0) (.var 4 m)]⟩,some ⟨1,.of [.int .i64 (.lit 0),.nils,.nils]⟩,none,some ⟨1,.of [.int .i64 (.var 1 s),.slice true (.ro (.var 24 ks)) (.lit 0) (.var 3 n),.slice true (.ro (.var 25 kp)) (.lit 0) (.var 4 m)]⟩,none])] 0) ?_ (fuel:=300) (n0:=20) (m:=0) (c:=I2 (I2 (B8 Try.f12))) (vs:=[.ptr (.rw 0) (.lit 0),.ptr (.rw 1) (.lit 0),.ptr (.rw 3) (.lit 0)]) (H:=[some ⟨1,.of [.int .i64 (.var 1 s),.slice true (.ro (.var 24 ks)) (.lit 0) (.var 3 n),.slice true (.ro (.var 25 kp)) (.lit 0) (.var 4 m)]⟩,some ⟨1,.of [.int .i64 (.lit 0),.nils,.nils]⟩,some ⟨2,.var 7 (B1 (xP (G kp)) (G kp) m)⟩,some ⟨1,.of [.int .i64 (.var 1 s),.nils,.slice true (.rw 2) (.lit 0) (.var 4 m)]⟩]) (Nat.zero_le _) ?_
 ·exact I0 (E9 G B) (by kernel_rfl) .nil (.cast (.cons (i:=0) (by kernel_rfl) rfl l0 .nil) (by kernel_rfl))
 ·rw [rc_2b];exact ⟨D4,rfl,rfl,rfl⟩
theorem rW:B8 Try.f12=.seq (Cc (B8 Try.f12)) (.seq (.region 1 (Uf (Cc (I2 (B8 Try.f12)))) true) (I2 (I2 (B8 Try.f12)))):=by kernel_rfl
theorem bZ (G:Nat→List AV) (B:Nat) (ks kp n m:Nat) (s:Int) {XX:List AV} (hb:Bx G ks kp n m) (hm:m≤1000000) {K:AV→Hp→Prop} {HF:Hp} (hf:K (.agg XX) HF) (hres:Pw (⟨Try.prog,G,B⟩:A2) Try.f12 (fl 35 [1,2,3] [.ptr (.rw 0) 0,.ptr (.rw 1) 0,.ptr (.rw 3) 0]) HF=some (true,.agg XX)) (h:AWp (⟨Try.prog,G,B⟩:A2) 0 (I2 (I2 (B8 Try.f12))) (fl 35 [1,2,3] [.ptr (.rw 0) 0,.ptr (.rw 1) 0,.ptr (.rw 3) 0]) [some ⟨1,[.int .i64 s,.slice true (.ro ks) 0 n,.slice true (.ro kp) 0 m]⟩,some ⟨1,[.int .i64 0,.nils,.nils]⟩,some ⟨2,(B1 (xP (G kp)) (G kp) m)⟩,some ⟨1,[.int .i64 s,.nils,.slice true (.rw 2) 0 m]⟩] (lv 35 [1,2,3] fun e vs H=>e=.ret∧vs=[.ptr (.rw 0) 0,.ptr (.rw 1) 0,.ptr (.rw 3) 0]∧H=HF)):ACalls (⟨Try.prog,G,B⟩:A2) 12 [.agg [.int .i64 s,.slice true (.ro ks) 0 n,.slice true (.ro kp) 0 m]] [] K:=by
 refine acalls_of (fn:=Try.f12) (c:=B8 Try.f12) (by kernel_rfl) (by kernel_rfl) (by kernel_rfl) ?_
 have fin:AWp (⟨Try.prog,G,B⟩:A2) 0 (I2 (I2 (B8 Try.f12))) (fl 35 [1,2,3] [.ptr (.rw 0) 0,.ptr (.rw 1) 0,.ptr (.rw 3) 0]) [some ⟨1,[.int .i64 s,.slice true (.ro ks) 0 n,.slice true (.ro kp) 0 m]⟩,some ⟨1,[.int .i64 0,.nils,.nils]⟩,some ⟨2,(B1 (xP (G kp)) (G kp) m)⟩,some ⟨1,[.int .i64 s,.nils,.slice true (.rw 2) 0 m]⟩] (N6 (⟨Try.prog,G,B⟩:A2) Try.f12 K):=by
  refine AWp.lvd h ?_;rintro e vs H ⟨rfl,rfl,rfl⟩;unfold N6;rw [hres];exact hf
 show AWp (⟨Try.prog,G,B⟩:A2) 0 (B8 Try.f12) _ _ _;refine AWp.rd (N:=35) [0] (by kernel_rfl) ?_;rw [rW];refine AWp.seq (Nat.zero_le _) ?_;show AWp (⟨Try.prog,G,B⟩:A2) 0 (Cc (B8 Try.f12)) (fl 35 [0,1,2] [.agg [.int .i64 s,.slice true (.ro ks) 0 n,.slice true (.ro kp) 0 m],.undef,.undef]) [] _;refine AWp.lvd (live:=[0,1,2]) (N:=35) (Q:=fun ex vs H=>ex=.normal∧vs=[.agg [.int .i64 s,.slice true (.ro ks) 0 n,.slice true (.ro kp) 0 m],.ptr (.rw 0) 0,.ptr (.rw 1) 0]∧H=[some ⟨1,[.int .i64 s,.slice true (.ro ks) 0 n,.slice true (.ro kp) 0 m]⟩,some ⟨1,[.int .i64 0,.nils,.nils]⟩]) ?_ ?_
 ·refine D3 (C:=(⟨Try.prog,G,B⟩:A2)) (K:=Dc Try.prog [] [] [] 0) (by rw [show A8 (Cc (B8 Try.f12))=[] by kernel_rfl];exact I0 (E9 G B) (by kernel_rfl) .nil .nil) (fuel:=300) (n0:=20) (m:=0) (vs:=[.agg (.of [.int .i64 (.var 1 s),.slice true (.ro (.var 24 ks)) (.lit 0) (.var 3 n),.slice true (.ro (.var 25 kp)) (.lit 0) (.var 4 m)]),.undef,.undef]) (H:=[]) (Nat.zero_le _) ?_;rw [rc_0];exact ⟨rfl,rfl,rfl⟩
 rintro ex vs H ⟨rfl,rfl,rfl⟩;show AWp (⟨Try.prog,G,B⟩:A2) 0 (.seq (.region 1 (Uf (Cc (I2 (B8 Try.f12)))) true) (I2 (I2 (B8 Try.f12)))) (fl 35 [0,1,2] [.agg [.int .i64 s,.slice true (.ro ks) 0 n,.slice true (.ro kp) 0 m],.ptr (.rw 0) 0,.ptr (.rw 1) 0]) _ _;refine AWp.rd [1,2,3] Fb ?_;refine AWp.seq (Nat.zero_le _) ?_;show AWp (⟨Try.prog,G,B⟩:A2) 0 (.region 1 (Uf (Cc (I2 (B8 Try.f12)))) true) (fl 35 [1,2,3] [.ptr (.rw 0) 0,.ptr (.rw 1) 0,.undef]) [some ⟨1,[.int .i64 s,.slice true (.ro ks) 0 n,.slice true (.ro kp) 0 m]⟩,some ⟨1,[.int .i64 0,.nils,.nils]⟩] _
 have e0:=Zu hb;obtain ⟨_,hc,_⟩:=U8.1 hb.cp;obtain ⟨⟨c1,c2⟩,_,_⟩:=J0.1 hc;rw [Nat.zero_add] at c1
 refine AWp.lvd (live:=[1,2,3]) (N:=35) (Q:=fun ex vs H=>ex=.normal∧((vs=[.ptr (.rw 0) 0,.ptr (.rw 1) 0,.ptr (.rw 3) 0]∧H=[some ⟨1,[.int .i64 s,.slice true (.ro ks) 0 n,.slice true (.ro kp) 0 m]⟩,some ⟨1,[.int .i64 0,.nils,.nils]⟩,some ⟨2,(B1 (xP (G kp)) (G kp) m)⟩,some ⟨1,[.int .i64 s,.nils,.slice true (.rw 2) 0 m]⟩])∨(vs=[.ptr (.rw 0) 0,.ptr (.rw 1) 0,.ptr (.rw 2) 0]∧H=[some ⟨1,[.int .i64 s,.slice true (.ro ks) 0 n,.slice true (.ro kp) 0 m]⟩,some ⟨1,[.int .i64 0,.nils,.nils]⟩,some ⟨1,[.int .i64 s,.nils,.slice true (.rw 3) 0 m]⟩,some ⟨2,(B1 (xP (G kp)) (G kp) m)⟩]))) ?_ ?_
 ·refine dtwo3 (C:=(⟨Try.prog,G,B⟩:A2)) (K:=Dc Try.prog [] [] [] 0) (I0 (E9 G B) (by kernel_rfl) .nil .nil) (fuel:=300) (n0:=20) (m:=0) (i:=4) (j:=6) (vs:=[.ptr (.rw 0) (.lit 0),.ptr (.rw 1) (.lit 0),.undef]) (H:=[some ⟨1,.of [.int .i64 (.var 1 s),.slice true (.ro (.var 24 ks)) (.lit 0) (.var 3 n),.slice true (.ro (.var 25 kp)) (.lit 0) (.var 4 m)]⟩,some ⟨1,.of [.int .i64 (.lit 0),.nils,.nils]⟩]) (Nat.zero_le _) rfl (by kernel_rfl) (by kernel_rfl) ?_ ?_
  ·rw [rc_1,e0];exact ⟨c1,by rw [←e0];exact c2,C6.2 (by omega),rfl,.inl ⟨rfl,rfl⟩⟩
  ·rw [rc_3,e0];exact ⟨c1,by rw [←e0];exact c2,C6.2 (by omega),rfl,.inr ⟨rfl,rfl⟩⟩
 ·rintro ex vs H ⟨rfl,q⟩;show AWp (⟨Try.prog,G,B⟩:A2) 0 (I2 (I2 (B8 Try.f12))) (fl 35 [1,2,3] vs) H (N6 (⟨Try.prog,G,B⟩:A2) Try.f12 K);rcases q with ⟨rfl,rfl⟩ | ⟨rfl,rfl⟩
  ·exact fin
  ·refine AWp.pre fin ?_;refine B7.frames (θ:=[0,1,3,2]) (by simp) ⟨⟨rfl,rfl⟩,⟨rfl,rfl⟩,⟨J1,by rw [F5 [0,1,3,2] _ J1];rfl⟩,⟨rfl,rfl⟩,trivial⟩ rfl rfl rfl rfl
theorem vY (G:Nat→List AV) (B:Nat) (ks kp n m:Nat) (s:Int) (hb:Bx G ks kp n m) (hw:Tk G ks kp n m) (h20:n≤20) (hm:m≤1000000):ACalls (⟨Try.prog,G,B⟩:A2) 12 [.agg [.int .i64 s,.slice true (.ro ks) 0 n,.slice true (.ro kp) 0 m]] [] fun v H=>v=.agg [.int .i64 s,.slice true (.ro ks) 0 n,.slice true (.ro kp) 0 m]∧H=[]:=
 ACalls.drop0 (bZ G B ks kp n m s hb hm (XX:=[.int .i64 s,.slice true (.ro ks) 0 n,.slice true (.ro kp) 0 m]) (K:=fun v _=>v=.agg [.int .i64 s,.slice true (.ro ks) 0 n,.slice true (.ro kp) 0 m]) (HF:=[some ⟨1,[.int .i64 s,.slice true (.ro ks) 0 n,.slice true (.ro kp) 0 m]⟩,some ⟨1,[.int .i64 s,.slice true (.ro ks) 0 n,.slice true (.ro kp) 0 m]⟩,none,some ⟨1,[.int .i64 s,.slice true (.ro ks) 0 n,.slice true (.ro kp) 0 m]⟩,none]) rfl (by kernel_rfl) (lP G B ks kp n m s hb hw h20)) rfl (by simp)
end Go.Am
namespace Go.Am
open Go.Proofs
set_option maxRecDepth 100000
def Vx:Nat→Nat:=fun j=>if j=0 then 12 else if j=1 then 2 else j+2
theorem vX (G:Nat→List AV) (B:Nat) (ks kp n m:Nat) (s:Int) (hb:Bx G ks kp n m) (h8:n≤8) (hm:m≤1000000):ACalls (⟨Try.prog,G,B⟩:A2) 12 [.agg [.int .i64 s,.slice true (.ro ks) 0 n,.slice true (.ro kp) 0 m]] [] fun v H'=>v=.agg [.int .i64 s,.slice true (.rw 0) 0 n,.slice true (.rw 1) 0 m]∧H'=Aa G ks kp n m 2:=by
 have key:=bZ G B ks kp n m s hb hm (XX:=[.int .i64 s,.slice true (.rw 12) 0 n,.slice true (.rw 2) 0 m]) (K:=fun v H=>v=.agg [.int .i64 s,.slice true (.rw 12) 0 n,.slice true (.rw 2) 0 m]∧H=([some ⟨1,[.int .i64 s,.slice true (.ro ks) 0 n,.slice true (.ro kp) 0 m]⟩,some ⟨1,[.int .i64 s,.slice true (.rw 12) 0 n,.slice true (.rw 2) 0 m]⟩,some ⟨2,(B1 (xP (G kp)) (G kp) m)⟩,some ⟨1,[.int .i64 s,.slice true (.rw 12) 0 n,.slice true (.rw 2) 0 m]⟩]++(L5 (A1 (dB0 G (G ks) n))++[some ⟨4,(A7 (G ks) n (dW 4 (G ks)))⟩]))) (HF:=([some ⟨1,[.int .i64 s,.slice true (.ro ks) 0 n,.slice true (.ro kp) 0 m]⟩,some ⟨1,[.int .i64 s,.slice true (.rw 12) 0 n,.slice true (.rw 2) 0 m]⟩,some ⟨2,(B1 (xP (G kp)) (G kp) m)⟩,some ⟨1,[.int .i64 s,.slice true (.rw 12) 0 n,.slice true (.rw 2) 0 m]⟩]++(L5 (A1 (dB0 G (G ks) n))++[some ⟨4,(A7 (G ks) n (dW 4 (G ks)))⟩]))) ⟨rfl,rfl⟩ (by kernel_rfl) (lQ G B ks kp n m s hb h8)
 refine key.view fun v H' ⟨e1,e2⟩=>⟨_,_,⟨rfl,rfl⟩,?_⟩;subst e1 e2;obtain ⟨_,hc,hd⟩:=U8.1 hb.cp;have th:∀ j,j<10→((List.range 10).map Vx).getD j 0=Vx j:=fun j hj=>X4 hj
 have inj:∀ a b,a<10→b<10→Vx a=Vx b→a=b:=fun a b ha hb h=>by
  unfold Vx at h;split at h<;>split at h<;>(try split at h)<;>(try split at h)<;>omega
 have t2:∀ j,Vx (2+j)=4+j:=fun j=>by unfold Vx;rw [if_neg (by omega),if_neg (by omega)];omega
 refine B7.fn (N:=10) Vx Gk (Nat.zero_le _) (fun j hj=>absurd hj (Nat.not_lt_zero j)) inj (fun j hj=>?_) rfl ?_
 ·match j,hj with
  | 0,_=>
   refine ⟨⟨4,A7 (G ks) n (dW 2 (G ks))⟩,⟨4,(A7 (G ks) n (dW 4 (G ks)))⟩,rfl,rfl,rfl,Bo fun j hj=>?_,.inr ?_⟩
   ·show decide (2+j<10)=true;exact decide_eq_true (by omega)
   ·show (A7 (G ks) n (dW 4 (G ks)))=rens _ (A7 (G ks) n (dW 2 (G ks)));rw [Jf];refine (Z3 fun j hj=>?_).symm;simp only [dW,C5,th (2+j) (by omega),t2]
  | 1,_=>
   refine ⟨⟨2,B9 (G kp) 0 (m*2)⟩,⟨2,(B1 (xP (G kp)) (G kp) m)⟩,rfl,rfl,rfl,H6 (Nat.zero_le _) _ (J0.1 hc).2.2,.inr ?_⟩;show (B1 (xP (G kp)) (G kp) m)=rens _ (B9 (G kp) 0 (m*2));rw [Zu hb,F5 _ _ J1]
  | j+2,hj=>
   have hj8:j<8:=by omega
   have e:(Aa G ks kp n m 2)[j+2]?=some (some ⟨1,A0 (A1 (dB0 G (G ks) n)) j⟩):=by
    unfold Aa;rw [List.getElem?_append_right (by simp),Qv hb];exact V9 hj8
   refine ⟨⟨1,A0 (A1 (dB0 G (G ks) n)) j⟩,⟨1,A0 (A1 (dB0 G (G ks) n)) j⟩,e,?_,rfl,Dl hj8,.inr (F5 _ _ (Dl hj8)).symm⟩;rw [show j+2=2+j by omega,t2,List.getElem?_append_right (by simp),List.getElem?_append_left (by rw [M0];simp;omega)];show (L5 (A1 (dB0 G (G ks) n)))[4+j - 4]?=_;rw [Nat.add_sub_cancel_left];exact V9 hj8
 ·simp only [rens,C5,th 0 (by omega),th 1 (by omega)];exact ⟨rfl,trivial⟩
end Go.Am
namespace Go.Am
open Go.Proofs
set_option maxRecDepth 100000
theorem rdX {C:A2} {H:DHp} {x:EV} {L:EL} {n:EN} (d:Nat) (h:Wj H x=some (L,n)):∃ (X:AV) (r:Ref),bW d (vN C.G n) X∧E6 X=true∧(∀ σ:Sig,σ d=(r,0)→sb σ 0 X=vV C.G x)∧(vL C.G L=[]∨D0 C (B4 C.G H) r=some (vL C.G L)):=by
 have h0:=h;unfold Wj at h;split at h
 ·simp only [Option.some.injEq,Prod.mk.injEq] at h;obtain ⟨rfl,rfl⟩:=h;exact ⟨.nils,.ro 0,.inr ⟨rfl,rfl⟩,rfl,fun σ hσ=>by simp only [sb,vV],.inl (by simp only [vL,vVs])⟩
 ·simp only [Option.some.injEq,Prod.mk.injEq] at h;obtain ⟨rfl,rfl⟩:=h;rename_i mb k n';exact ⟨.slice mb (.ro d) 0 (vN C.G n'),.ro (vN C.G k),.inl ⟨mb,rfl⟩,rfl,fun σ hσ=>by simp only [sb,hσ,vV,vR,vN,Nat.add_zero],.inr (by simp only [D0,vL])⟩
 ·rename_i mb i n';split at h
  ·rename_i b hb;split at h
   ·simp at h
   ·rename_i hr;simp only [Option.some.injEq,Prod.mk.injEq] at h;obtain ⟨rfl,rfl⟩:=h;refine ⟨.slice mb (.ro d) 0 (vN C.G n'),.rw i,.inl ⟨mb,rfl⟩,rfl,fun σ hσ=>by simp only [sb,hσ,vV,vR,vN,Nat.add_zero],.inr ?_⟩;have hr:isRec (K6 C.G b)=false:=hr;simp only [D0,Q9 hb];rw [hr];rfl
  ·simp at h
 ·simp at h
def g6 (c0 p0 d0 c1 p1 d1:List AV):Nat→List AV:=fun k=>match k with
 | 0=>c0
 | 1=>p0
 | 2=>d0
 | 3=>c1
 | 4=>p1
 | 5=>d1
 | _=>[]
def s6 (a b c d e f:Ref):Sig:=fun k=>match k with
 | 0=>(a,0)
 | 1=>(b,0)
 | 2=>(c,0)
 | 3=>(d,0)
 | 4=>(e,0)
 | _=>(f,0)
theorem Kb {C:A2} {H:Hp} {r:Ref} {l:List AV} (σ:Sig) (hl:l=[]∨D0 C H r=some l) (hf:A5 0 l=true∧W2 l=true):l=[]∨∃ cs,D0 C H r=some cs∧∀ (j:Nat) v,l[j]?=some v→E6 v=true∧cs[0+j]?=some (sb σ 0 v):=by
 rcases hl with h | h
 ·exact .inl h
 ·refine .inr ⟨_,h,fun j v hj=>?_⟩;obtain ⟨g1,g2⟩:=flatN hf j v hj σ;exact ⟨g1,by rw [g2];simpa using hj⟩
theorem dQ {C:A2} {H:DHp} {i:Nat} {a r z:EI} {sl:EV} {X:AV} (σ:Sig) (hi:H[i]?=some (some ⟨4,.of [.int .i64 a,.int .i64 r,sl,.int .i64 z]⟩)) (hX:E6 X=true) (hs:sb σ 0 X=vV C.G sl) :
  ∃ cs,D0 C (B4 C.G H) (.rw i)=some cs∧∀ (j:Nat) v,([.int .i64 (vI C.G a),.int .i64 (vI C.G r),X,.int .i64 (vI C.G z)]:List AV)[j]?=some v→E6 v=true∧cs[0+j]?=some (sb σ 0 v):=by
 have gi:=Q9 (G:=C.G) hi;refine ⟨[.int .i64 (vI C.G a),.int .i64 (vI C.G r),vV C.G sl,.int .i64 (vI C.G z)],?_,fun j v hj=>?_⟩
 ·simp only [D0,gi]
  have:isRec (K6 C.G ⟨4,.of [.int .i64 a,.int .i64 r,sl,.int .i64 z]⟩)=false:=rfl
  rw [this];simp only [K6,vL,vVs,vV]
 ·match j,hj with
  | 0,hj=>simp at hj;subst hj;exact ⟨rfl,by simp [sb]⟩
  | 1,hj=>simp at hj;subst hj;exact ⟨rfl,by simp [sb]⟩
  | 2,hj=>simp at hj;subst hj;exact ⟨hX,by simp only [Nat.zero_add,List.getElem?_cons_succ,List.getElem?_cons_zero];rw [hs]⟩
  | 3,hj=>simp at hj;subst hj;exact ⟨rfl,by simp [sb]⟩
  | j+4,hj=>simp at hj
def Rp (s a r:Int) (D:List AV) (n:Nat) (z:Int) (L:List AV) (m:Nat) (sv a2 r2:Int) (D2:List AV) (n2:Nat) (z2:Int) (L2:List AV) (m2:Nat):Bool:=
 (s==sv)&&(gQ L m L2 m2&&((a==a2)&&((r==r2)&&((Ca (B9 D 0 n)==Ca (B9 D2 0 n2))&&(z==z2)))))
def Qu (D:List AV) (n:Nat):Bool:=(leB n D.length&&u8s (B9 D 0 n))&&(A5 0 D&&W2 D)
def Zt (L:List AV) (m:Nat):Bool:=U4 L m&&(A5 0 L&&W2 L)
theorem oJ {G:Nat→List AV} {a r z:Int} {n d:Nat} {X:AV} (h:bW d n X):N8 G [.int .i64 a,.int .i64 r,X,.int .i64 z] 0=B9 (G d) 0 n:=by
 rcases h with ⟨mb,rfl⟩ | ⟨rfl,rfl⟩
 ·rfl
 ·show B9 (G 0) 0 0=B9 (G d) 0 0;unfold B9;rw [List.take_zero,List.take_zero]
theorem sec6 {G:Nat→List AV} {a r z:Int} {n d:Nat} {X:AV} (h:bW d n X) (hd:Qu (G d) n=true):S6 G [.int .i64 a,.int .i64 r,X,.int .i64 z] 1=true:=by
 unfold Qu at hd;simp only [Bool.and_eq_true] at hd
 have e:Y4 G [.int .i64 a,.int .i64 r,X,.int .i64 z] 0=true:=by
  unfold Y4;rw [oJ h,Bool.and_eq_true];refine ⟨?_,hd.1.2⟩;rcases h with ⟨mb,rfl⟩ | ⟨rfl,rfl⟩
  ·show leB (0+n) (G d).length=true;rw [Nat.zero_add];exact hd.1.1
  ·exact C6.2 (Nat.zero_le _)
 unfold S6 Cs;rw [Bool.and_eq_true,Bool.and_eq_true];refine ⟨?_,H4.2 fun k hk=>?_,rfl⟩
 ·rcases h with ⟨mb,rfl⟩ | ⟨rfl,rfl⟩<;>rfl
 ·obtain rfl:k=0:=by omega
  exact e
theorem all1 {f:Nat→Bool}:F9 f 1=f 0:=by
 show (true&&f 0)=f 0;rw [Bool.true_and]
theorem same6 {G:Nat→List AV} {s a r z sv a2 r2 z2:Int} {n n2 m m2:Nat} {X Y:AV} {L L2:List AV} (hX:bW 2 n X) (hY:bW 5 n2 Y):Ce G s [.int .i64 a,.int .i64 r,X,.int .i64 z] 1 L m sv [.int .i64 a2,.int .i64 r2,Y,.int .i64 z2] 1 L2 m2=Rp s a r (G 2) n z L m sv a2 r2 (G 5) n2 z2 L2 m2:=by
 unfold Ce Rp gG R6;rw [all1,oJ hX,oJ hY];rfl
def Ro:List AV→Bool:=fun xs=>match xs with
 | [.int _ s,.int _ a,.int _ r,.agg D,.int _ n,.int _ z,.agg L,.int _ m,.int _ sv,.int _ a2,.int _ r2,.agg D2,.int _ n2,.int _ z2,.agg L2,.int _ m2]=>Rp s a r D n.toNat z L m.toNat sv a2 r2 D2 n2.toNat z2 L2 m2.toNat
 | _=>false
def Uc:List AV→Bool:=fun xs=>match xs with
 | [.agg D,.int _ n,.agg L,.int _ m,.agg D2,.int _ n2,.agg L2,.int _ m2]=>(Qu D n.toNat&&Zt L m.toNat)&&(Qu D2 n2.toNat&&Zt L2 m2.toNat)
 | _=>false
theorem jP {s a r z sv a2 r2 z2:Int} {D L D2 L2:List AV} {n m n2 m2:Nat}:Ro [.int .i64 s,.int .i64 a,.int .i64 r,.agg D,.int .i64 (n:Int),.int .i64 z,.agg L,.int .i64 (m:Int),.int .i64 sv,.int .i64 a2,.int .i64 r2,.agg D2,.int .i64 (n2:Int),.int .i64 z2,.agg L2,.int .i64 (m2:Int)]=Rp s a r D n z L m sv a2 r2 D2 n2 z2 L2 m2:=by simp only [Ro,C4]
theorem cV {D L D2 L2:List AV} {n m n2 m2:Nat}:Uc [.agg D,.int .i64 (n:Int),.agg L,.int .i64 (m:Int),.agg D2,.int .i64 (n2:Int),.agg L2,.int .i64 (m2:Int)]=true↔(Qu D n=true∧Zt L m=true)∧(Qu D2 n2=true∧Zt L2 m2=true):=by simp only [Uc,C4,Bool.and_eq_true]
def same1S:DSum:=fun args H=>match args with
 | [.agg (.of [.int .i64 s,.slice _ (.rw i) (.lit 0) (.lit 1),pl]),.agg (.of [.int .i64 sv,.slice _ (.rw j) (.lit 0) (.lit 1),pl2])]=>match H[i]? with
  | some (some ⟨4,.of [.int .i64 a,.int .i64 r,sl,.int .i64 z]⟩)=>match H[j]? with
   | some (some ⟨4,.of [.int .i64 a2,.int .i64 r2,sl2,.int .i64 z2]⟩)=>match Wj H pl with
    | some (L,m)=>match Wj H pl2 with
     | some (L2,m2)=>match Wj H sl with
      | some (D,n)=>match Wj H sl2 with
       | some (D2,n2)=>some (.chk (.uf 1762 Uc [.agg D,.int .i64 (.ofN n),.agg L,.int .i64 (.ofN m),.agg D2,.int .i64 (.ofN n2),.agg L2,.int .i64 (.ofN m2)]) (.one (.bool (.uf 1763 Ro [.int .i64 s,.int .i64 a,.int .i64 r,.agg D,.int .i64 (.ofN n),.int .i64 z,.agg L,.int .i64 (.ofN m),.int .i64 sv,.int .i64 a2,.int .i64 r2,.agg D2,.int .i64 (.ofN n2),.int .i64 z2,.agg L2,.int .i64 (.ofN m2)])) []))
       | none=>none
      | none=>none
     | none=>none
    | none=>none
   | _=>none
  | _=>none
 | _=>none
theorem jQ (G:Nat→List AV) (B:Nat):G5 (⟨Try.prog,G,B⟩:A2) 15 same1S:=by
 intro args H o ho;unfold same1S at ho;split at ho
 ·rename_i s mb i pl sv mb2 j pl2;split at ho
  ·rename_i a r sl z hi;split at ho
   ·rename_i a2 r2 sl2 z2 hj;split at ho
    ·rename_i L m hL;split at ho
     ·rename_i L2 m2 hL2;split at ho
      ·rename_i D n hD;split at ho
       ·rename_i D2 n2 hD2;simp only [Option.some.injEq] at ho;subst ho;intro hc;obtain ⟨⟨c1,c2⟩,c3,c4⟩:=cV.1 hc;have c1':=c1;have c3':=c3;unfold Qu at c1 c3;unfold Zt at c2 c4;simp only [Bool.and_eq_true] at c1 c2 c3 c4;obtain ⟨X,rd,x1,x2,x3,x4⟩:=rdX (C:=(⟨Try.prog,G,B⟩:A2)) 2 hD;obtain ⟨Y,re,y1,y2,y3,y4⟩:=rdX (C:=(⟨Try.prog,G,B⟩:A2)) 5 hD2;obtain ⟨rp,p1,p2⟩:=jY (C:=(⟨Try.prog,G,B⟩:A2)) hL;obtain ⟨rq,q1,q2⟩:=jY (C:=(⟨Try.prog,G,B⟩:A2)) hL2
        refine F7.rdN (C:=(⟨Try.prog,G,B⟩:A2)) (σ:=s6 (.rw i) rp rd (.rw j) rq re) (G':=g6 [.int .i64 (vI G a),.int .i64 (vI G r),X,.int .i64 (vI G z)] (vL G L) (vL G D) [.int .i64 (vI G a2),.int .i64 (vI G r2),Y,.int .i64 (vI G z2)] (vL G L2) (vL G D2)) (args0:=[.agg [.int .i64 (vI G s),.slice true (.ro 0) 0 1,.slice true (.ro 1) 0 (vN G m)],.agg [.int .i64 (vI G sv),.slice true (.ro 3) 0 1,.slice true (.ro 4) 0 (vN G m2)]]) (fun k=>?_) rfl (fun ρ vs hvs=>?_) (fun B'=>?_) ⟨rfl,rfl⟩
        ·match k with
         | 0=>exact .inr (dQ _ hi x2 (x3 _ rfl))
         | 1=>exact Kb _ p2 c2.2
         | 2=>exact Kb _ x4 c1.2
         | 3=>exact .inr (dQ _ hj y2 (y3 _ rfl))
         | 4=>exact Kb _ q2 c4.2
         | 5=>exact Kb _ y4 c3.2
         | _+6=>exact .inl rfl
        ·simp only [vVs,vV,vL,sbs,sb,VRs,VR,vR,vN,s6,Nat.add_zero] at hvs ⊢;obtain ⟨v,vs',e,⟨ws,e2,w1,t1,e3,k1,w2,t2,e4,k2,w3,t3,e5,k3,k4⟩,v',vs2,e6,⟨us,e7,u1,z1,e8,l1,u2,zz2,e9,l2,u3,z3,e10,l3,l4⟩,k6⟩:=hvs
         have may:∀ {b:Bool} {r:Ref} {n:Nat} {w:Value},M7 ρ b r 0 n w→M7 ρ true r 0 n w:=fun {b r n w} h=>by
          have:=P3 (show VR ρ (.slice b r 0 n) w by simpa only [VR] using h)
          simpa only [VR] using this
         exact ⟨v,vs',e,⟨ws,e2,w1,t1,e3,k1,w2,t2,e4,may k2,w3,t3,e5,by simpa only [VR] using p1 ρ w3 k3,k4⟩,v',vs2,e6,⟨us,e7,u1,z1,e8,l1,u2,zz2,e9,may l2,u3,z3,e10,by simpa only [VR] using q1 ρ u3 l3,l4⟩,k6⟩
        ·refine (Kh _ B' (vI G s) (vI G sv) 0 3 1 1 1 4 (vN G m) (vN G m2) (sec6 (d:=2) x1 c1') (sec6 (d:=5) y1 c3') c2.1 c4.1).monoK fun v _ e=>?_;rw [e];show AV.bool (Ce (g6 _ _ _ _ _ _) (vI G s) [.int .i64 (vI G a),.int .i64 (vI G r),X,.int .i64 (vI G z)] 1 (vL G L) (vN G m) (vI G sv) [.int .i64 (vI G a2),.int .i64 (vI G r2),Y,.int .i64 (vI G z2)] 1 (vL G L2) (vN G m2))=_;rw [same6 x1 y1]
         show _=AV.bool (Ro [.int .i64 (vI G s),.int .i64 (vI G a),.int .i64 (vI G r),.agg (vL G D),.int .i64 (vN G n:Int),.int .i64 (vI G z),.agg (vL G L),.int .i64 (vN G m:Int),.int .i64 (vI G sv),.int .i64 (vI G a2),.int .i64 (vI G r2),.agg (vL G D2),.int .i64 (vN G n2:Int),.int .i64 (vI G z2),.agg (vL G L2),.int .i64 (vN G m2:Int)]);rw [jP];rfl
       ·simp at ho
      ·simp at ho
     ·simp at ho
    ·simp at ho
   ·simp at ho
  ·simp at ho
 ·simp at ho
end Go.Am
namespace Go.Am
open Go.Proofs
set_option maxRecDepth 100000
def sameN:DSum:=fun args _=>match args with
 | [.agg (.of [.int .i64 s,.nils,.nils]),.agg (.of [.int .i64 sv,.nils,.nils])]=>some (.one (.bool (.cmp .eql s sv)) [])
 | _=>none
theorem mX (G:Nat→List AV) (B:Nat):G5 (⟨Try.prog,G,B⟩:A2) 15 sameN:=by
 intro args H o ho;unfold sameN at ho;split at ho
 ·rename_i s sv;simp only [Option.some.injEq] at ho;subst ho;refine F7.rdN (C:=(⟨Try.prog,G,B⟩:A2)) (σ:=fun _=>(.ro 0,0)) (G':=fun _=>[]) (args0:=[.agg [.int .i64 (vI G s),.slice true (.ro 0) 0 0,.slice true (.ro 0) 0 0],.agg [.int .i64 (vI G sv),.slice true (.ro 0) 0 0,.slice true (.ro 0) 0 0]]) (fun k=>.inl rfl) rfl (fun ρ vs hvs=>?_) (fun B'=>?_) ⟨rfl,rfl⟩
  ·simp only [vVs,vV,vL,sbs,sb,VRs,VR,Nat.add_zero] at hvs ⊢;obtain ⟨v,vs',e,⟨ws,e2,w1,t1,e3,k1,w2,t2,e4,k2,w3,t3,e5,k3,k4⟩,v',vs2,e6,⟨us,e7,u1,z1,e8,l1,u2,zz2,e9,l2,u3,z3,e10,l3,l4⟩,k6⟩:=hvs
   have nl:∀ {w:Value},VR ρ .nils w→M7 ρ true (.ro 0) 0 0 w:=fun {w} h=>by
    have:=Ec 0 0 h
    simpa only [VR] using this
   exact ⟨v,vs',e,⟨ws,e2,w1,t1,e3,k1,w2,t2,e4,nl (by simpa only [VR] using k2),w3,t3,e5,nl (by simpa only [VR] using k3),k4⟩,v',vs2,e6,⟨us,e7,u1,z1,e8,l1,u2,zz2,e9,nl (by simpa only [VR] using l2),u3,z3,e10,nl (by simpa only [VR] using l3),l4⟩,k6⟩
  ·refine (Kh (fun _=>[]) B' (vI G s) (vI G sv) 0 0 0 0 0 0 0 0 rfl rfl rfl rfl).monoK fun v _ e=>?_;rw [e];show AV.bool ((vI G s==vI G sv)&&true)=.bool (vI G s==vI G sv);rw [Bool.and_true]
 ·simp at ho
def orS (s t:DSum):DSum:=fun args H=>match s args H with
 | some o=>some o
 | none=>t args H
theorem G5.or {C:A2} {f:FuncId} {s t:DSum} (hs:G5 C f s) (ht:G5 C f t):G5 C f (orS s t):=by
 intro args H o ho;unfold orS at ho;split at ho
 ·rename_i o' h;simp only [Option.some.injEq] at ho;subst ho;exact hs _ _ _ h
 ·exact ht _ _ _ ho
def Rq (G:Nat→List AV):DSum:=orS same1S (orS sameN (Xv G))
theorem Wb (G:Nat→List AV) (B:Nat):G5 (⟨Try.prog,G,B⟩:A2) 15 (Rq G):=(jQ G B).or ((mX G B).or (jS G B))
end Go.Am
namespace Go.Am
open Go.Proofs
set_option maxRecDepth 100000
def trueS:DSum:=fun args _=>match args with
 | []=>some (.one (.bool (.lit true)) [])
 | _=>none
end Go.Am
namespace Go.Am
open Go.Proofs
set_option maxRecDepth 100000
end Go.Am
namespace Go.Am
open Go.Proofs
set_option maxRecDepth 100000
end Go.Am
namespace Go.Am
open Go.Proofs
set_option maxRecDepth 100000
end Go.Am
namespace Go.Proofs.Ythejjolnlngahaa
open Go.Am Go.RowKit
set_option maxRecDepth 100000
theorem kV (G:Nat→List AV) (B:Nat):vc (Kc ⟨Try.prog,G,B⟩) 3000 0 (.code (B8 Try.f11)) (R4 Try.f11 []) [] (N6 ⟨Try.prog,G,B⟩ Try.f11 fun v _=>chk (isT v) True)=True:=by kernel_rfl
theorem known_call (G:Nat→List AV) (B:Nat):ACalls ⟨Try.prog,G,B⟩ 11 [] [] fun v _=>v=.bool true:=
 closed_run (C:=⟨Try.prog,G,B⟩) (by kernel_rfl) (fn:=Try.f11) (by kernel_rfl) (by kernel_rfl) (by kernel_rfl) 3000 (kV G B)
end Go.Proofs.Ythejjolnlngahaa
namespace Go.Am
open Go.Proofs
set_option maxRecDepth 100000
def plA:AV→Bool
 | .int _ _=>true
 | .bool _=>true
 | _=>false
theorem V6 {l:List AV} {n:Nat} (h:l.length=n):B9 l 0 n=l:=by
 unfold B9;rw [List.drop_zero,List.take_of_length_le (by omega)]
theorem Um {cs:List AV} {n m:Nat} (h:Y3 cs n m=false):n≤20∧m≤1000:=by
 unfold Y3 at h;simp only [Bool.or_eq_false_iff,decide_eq_false_iff_not] at h;omega
theorem Yy (G:Nat→List AV) (B:Nat):G5 (⟨Try.prog,G,B⟩:A2) 11 trueS:=by
 intro args H o ho;unfold trueS at ho;split at ho
 ·simp only [Option.some.injEq] at ho;subst ho;exact F7.of (cU fun G B=>Go.Proofs.Ythejjolnlngahaa.known_call G B) (by simp only [true_sum,vVs,vV,vB,List.map_nil])
 ·simp at ho
end Go.Am
namespace Go.Am
open Go.Proofs
set_option maxRecDepth 100000
def Cy (j:Nat) (q:List AV→Bool) (o:Outs):DSum:=fun args _=>some (.chk (.uf j q [.agg (.of args),.agg (.of [])]) o)
theorem dY {C:A2} {f j:Nat} {vs0:List AV} {v0:AV} {b:EB} {x y:EV} {q:List AV→Bool} (hq:q=G8 vs0 []) (h:ACalls C f vs0 [] fun v _=>v=v0) (ha:A5 0 vs0=true) (hv:B0 0 v0=true) (hu:v0≠.undef) (e1:vB C.G b=true→vV C.G x=v0) (e2:vB C.G b=false→vV C.G y=v0):G5 C f (Cy j q (.tst b (.one x []) (.one y []))):=by
 intro args H o' ho;simp only [Cy,Option.some.injEq] at ho;subst ho;intro h1;have h1:q [.agg (vVs C.G args),.agg (P8 [])]=true:=h1;rw [hq] at h1;obtain ⟨e,_⟩:=Oj h1;have h0:=ACalls.drop0 h hv hu;refine ⟨fun hb=>?_,fun hb=>?_⟩
 ·have:=e1 hb
  exact F7.ro0 (by rw [e,this];exact h0) (by rw [e];exact ha) (by rw [this];exact hv)
 ·have:=e2 hb
  exact F7.ro0 (by rw [e,this];exact h0) (by rw [e];exact ha) (by rw [this];exact hv)
theorem qO {C:A2} {f j:Nat} {vs0:List AV} {v0:AV} {x:EV} {q:List AV→Bool} (hq:q=G8 vs0 []) (h:ACalls C f vs0 [] fun v _=>v=v0) (ha:A5 0 vs0=true) (hv:B0 0 v0=true) (hu:v0≠.undef) (e1:vV C.G x=v0):G5 C f (Cy j q (.one x [])):=by
 intro args H o' ho;simp only [Cy,Option.some.injEq] at ho;subst ho;intro h1;have h1:q [.agg (vVs C.G args),.agg (P8 [])]=true:=h1;rw [hq] at h1;obtain ⟨e,_⟩:=Oj h1;exact F7.ro0 (by rw [e,e1];exact ACalls.drop0 h hv hu) (by rw [e];exact ha) (by rw [e1];exact hv)
theorem kL (G:Nat→List AV) (q1 q2 q3:List AV→Bool) (ks kp kS kP n m:Nat) (by_ s s2:Int) (ok:Bool) (Q:Ex→List AV→Hp→Prop) (R:AV→Hp→Prop):vT G Q R (J7 (Dc Try.prog [16] [(10,muchS),(11,trueS),(12,Cy 1861 (q1) (.one (.agg (.of [.int .i64 (.var 1 s),.slice true (.ro (.var 24 ks)) (.lit 0) (.var 3 n),.slice true (.ro (.var 25 kp)) (.lit 0) (.var 4 m)])) [])),(13,Cy 1862 (q2) (.tst (.var 10 ok) (.one (.tup [(.agg (.of [.int .i64 (.var 14 s2),.slice true (.ro (.var 26 kS)) (.lit 0) (.var 3 n),.slice true (.ro (.var 27 kP)) (.lit 0) (.var 4 m)])),.int .i64 (.lit 0)]) []) (.one (.tup [(.agg (.of [.int .i64 (.lit 0),.nils,.nils])),.int .i64 (.lit 2)]) []))),(14,Cy 1863 (q3) (.tst (.var 10 ok) (.one (.tup [(.agg (.of [.int .i64 (.var 14 s2),.slice true (.ro (.var 26 kS)) (.lit 0) (.var 3 n),.slice true (.ro (.var 27 kP)) (.lit 0) (.var 4 m)])),.int .i64 (.lit 0)]) []) (.one (.tup [(.agg (.of [.int .i64 (.lit 0),.nils,.nils])),.int .i64 (.lit 2)]) []))),(15,Rq G)] [] 0) 400 20 Try.f3 [.agg (.of [.int .i64 (.var 1 s),.slice true (.ro (.var 24 ks)) (.lit 0) (.var 3 n),.slice true (.ro (.var 25 kp)) (.lit 0) (.var 4 m)]),.int .i64 (.var 2 by_)] [] 0)=(
  secOkU [.agg (G (ks)),.int .i64 (((n:Nat):Int))]=true∧(Sb [.agg (G (ks)),.int .i64 (((n:Nat):Int)),.int .i64 (((m:Nat):Int))]=true→R (.bool (true)) [])∧(Sb [.agg (G (ks)),.int .i64 (((n:Nat):Int)),.int .i64 (((m:Nat):Int))]=false→(q1) [.agg ([.agg ([.int .i64 (s),.slice true (.ro (ks)) (0) (n),.slice true (.ro (kp)) (0) (m)]:List AV)]:List AV),.agg ([]:List AV)]=true∧(q2) [.agg ([.agg ([.int .i64 (s),.slice true (.ro (ks)) (0) (n),.slice true (.ro (kp)) (0) (m)]:List AV),.int .i64 (by_)]:List AV),.agg ([]:List AV)]=true∧(ok=true→(q3) [.agg ([.agg ([.int .i64 (s),.slice true (.ro (ks)) (0) (n),.slice true (.ro (kp)) (0) (m)]:List AV),.int .i64 (by_)]:List AV),.agg ([]:List AV)]=true∧ok=true∧(Gw G) [.int .i64 (s),.agg (G (ks)),.int .i64 (((n:Nat):Int)),.agg (G (kp)),.int .i64 (((m:Nat):Int)),.int .i64 (s),.agg (G (ks)),.int .i64 (((n:Nat):Int)),.agg (G (kp)),.int .i64 (((m:Nat):Int))]=true∧((Fq G) [.int .i64 (s),.agg (G (ks)),.int .i64 (((n:Nat):Int)),.agg (G (kp)),.int .i64 (((m:Nat):Int)),.int .i64 (s),.agg (G (ks)),.int .i64 (((n:Nat):Int)),.agg (G (kp)),.int .i64 (((m:Nat):Int))]=true→(Gw G) [.int .i64 (s2),.agg (G (kS)),.int .i64 (((n:Nat):Int)),.agg (G (kP)),.int .i64 (((m:Nat):Int)),.int .i64 (s2),.agg (G (kS)),.int .i64 (((n:Nat):Int)),.agg (G (kP)),.int .i64 (((m:Nat):Int))]=true∧((Fq G) [.int .i64 (s2),.agg (G (kS)),.int .i64 (((n:Nat):Int)),.agg (G (kP)),.int .i64 (((m:Nat):Int)),.int .i64 (s2),.agg (G (kS)),.int .i64 (((n:Nat):Int)),.agg (G (kP)),.int .i64 (((m:Nat):Int))]=true→R (.bool (true)) [])∧((Fq G) [.int .i64 (s2),.agg (G (kS)),.int .i64 (((n:Nat):Int)),.agg (G (kP)),.int .i64 (((m:Nat):Int)),.int .i64 (s2),.agg (G (kS)),.int .i64 (((n:Nat):Int)),.agg (G (kP)),.int .i64 (((m:Nat):Int))]=false→R (.bool (false)) []))∧
 ((Fq G) [.int .i64 (s),.agg (G (ks)),.int .i64 (((n:Nat):Int)),.agg (G (kp)),.int .i64 (((m:Nat):Int)),.int .i64 (s),.agg (G (ks)),.int .i64 (((n:Nat):Int)),.agg (G (kp)),.int .i64 (((m:Nat):Int))]=false→R (.bool (false)) []))∧(ok=false→(q3) [.agg ([.agg ([.int .i64 (s),.slice true (.ro (ks)) (0) (n),.slice true (.ro (kp)) (0) (m)]:List AV),.int .i64 (by_)]:List AV),.agg ([]:List AV)]=true∧(!(ok))=true∧(Gw G) [.int .i64 (s),.agg (G (ks)),.int .i64 (((n:Nat):Int)),.agg (G (kp)),.int .i64 (((m:Nat):Int)),.int .i64 (s),.agg (G (ks)),.int .i64 (((n:Nat):Int)),.agg (G (kp)),.int .i64 (((m:Nat):Int))]=true∧((Fq G) [.int .i64 (s),.agg (G (ks)),.int .i64 (((n:Nat):Int)),.agg (G (kp)),.int .i64 (((m:Nat):Int)),.int .i64 (s),.agg (G (ks)),.int .i64 (((n:Nat):Int)),.agg (G (kp)),.int .i64 (((m:Nat):Int))]=true→((0:Int)==0)=true∧R (.bool (true)) [])∧((Fq G) [.int .i64 (s),.agg (G (ks)),.int .i64 (((n:Nat):Int)),.agg (G (kp)),.int .i64 (((m:Nat):Int)),.int .i64 (s),.agg (G (ks)),.int .i64 (((n:Nat):Int)),.agg (G (kp)),.int .i64 (((m:Nat):Int))]=false→R (.bool (false)) [])))):=by kernel_rfl
end Go.Am
