/-
  Images read, whatever the bytes: which are only read: Read's call. Images read, whatever the bytes: which are only read: Read's call.
-/
import Derived.Test.YthejjolnlngahaaPart21
import Derived.Test.YthejjolnlngahaaPart18
namespace Go.Am
open Go.Proofs Go.RowKit
set_option maxRecDepth 100000
theorem aH5 (G:Nat→List AV) (B:Nat) (ks kp:Nat) (l:List AV) (hn:Y1 G ks kp l=false) {tmps:Array Value} {cs:Array Value} {ρ':Env} {x y z u:AV} {E:Hp} (hsz:cs.size=2) (c2:VR ρ' (.ptr (.rw 1) 0) cs[0]) (c3:VR ρ' (.ptr (.rw 2) 0) cs[1])
  (t2:VR ρ' (.ptr (.rw 1) 0) (tmps.getD 2 undef)) (t3:VR ρ' (.ptr (.rw 2) 0) (tmps.getD 3 undef)):Saved (za G B) 96 Try.f29 ⟨.fn (.func 58) cs,#[]⟩ tmps ρ' ([none,some ⟨1,[x,y,z]⟩,some ⟨1,[u]⟩]++E) 1 (fun v H=>v=(if Y1 G ks kp l=true then AV.tup [.agg [.int .i64 (Gk l),.slice true (.ro ks) 0 (rzn l),.slice true (.ro kp) 0 (rzm l)],.int .i64 0] else .tup [.agg [.int .i64 0,.nils,.nils],.int .i64 4])∧∃ E,H=[none]++E):=by
 intro d w2 hR;have he:Qj Try.prog 58:=⟨Try.f58,C3 Try.f58,by kernel_rfl,by kernel_rfl,by kernel_rfl⟩
 have ea:(#[]++cs:Array Value)=#[cs[0],cs[1]]:=by
  apply Array.ext (by simp [hsz]);intro i h1 h2;simp at h2
  match i,h2 with
  | 0,_=>simp
  | 1,_=>simp
 refine ⟨.func 58,cs,58,#[]++cs,rfl,?_,?_⟩
 ·show (invoke (.fn (.func 58) cs) #[]).run Try.prog w2=_;simp only [invoke];exact Ch he _ w2
 rw [ea];have h0:B2 (za G B) ⟨ρ'.rw,ρ'.ro,[]⟩ ([none,some ⟨1,[x,y,z]⟩,some ⟨1,[u]⟩]++E) w2:=hR.setDfs [] fun _ h=>by simp at h
 refine (bA7 G B E x y z u h0 (Oz c2) (Oz c3)).mono ?_;rintro e u' w3 ⟨rfl,hu,ρ3,k1,k2,k3⟩;obtain ⟨b1,b2⟩:=hR.back k3 k2
 have hF:D0 ⟨ρ3.rw,ρ3.ro,d⟩ [.undef,.undef,.ptr (.rw 1) 0,.ptr (.rw 2) 0] ⟨#[undef,undef,tmps.getD 2 undef,tmps.getD 3 undef],[]⟩:=by
  refine ⟨⟨[],rfl,List.nodup_nil,fun _ h=>by simp at h⟩,rfl,fun i v hv=>?_⟩
  match i,hv with
  | 0,hv=>simp at hv;subst hv;simp [VR]
  | 1,hv=>simp at hv;subst hv;simp [VR]
  | 2,hv=>simp at hv;subst hv;exact Oz (Oy k1 (by omega) (Oz t2))
  | 3,hv=>simp at hv;subst hv;exact Oz (Oy k1 (by omega) (Oz t3))
 have hres:Kb (za G B) Try.f29 [.undef,.undef,.ptr (.rw 1) 0,.ptr (.rw 2) 0] [none,some ⟨1,[.int .i64 0,.nils,.nils]⟩,some ⟨1,[.int .i64 4]⟩,some ⟨1,[]⟩]=some (true,.tup [.agg [.int .i64 0,.nils,.nils],.int .i64 4]):=by kernel_rfl
 obtain ⟨cv,g1,g2⟩:=Bm b1 hF hres;refine ⟨rfl,hu,cv,_,⟨ρ3.rw,ρ3.ro,d⟩,_,?_,⟨?_,[some ⟨1,[.int .i64 0,.nils,.nils]⟩,some ⟨1,[.int .i64 4]⟩,some ⟨1,[]⟩],rfl⟩,⟨fun i hi=>k1 i (by omega),k3.ro,fun _ h=>h⟩,b1,g2,b2⟩
 ·rw [←g1];exact congrArg (fun s:Sem Value=>s.run Try.prog w3) (res29 rfl rfl)
 ·rw [if_neg (by rw [hn];decide)]
theorem aK2 (G:Nat→List AV) (B:Nat) (ks kp kb:Nat) (kd:Nat→Nat) (l:List AV) (hk:G kb=l) (h8:E4 l=true) (hL:l.length≤1000000) (g:Yh G ks kp kd l):ACalls (za G B) 29 [.slice true (.ro kb) 0 l.length] [none] (fun v H=>v=(if Y1 G ks kp l=true then AV.tup [.agg [.int .i64 (Gk l),.slice true (.ro ks) 0 (rzn l),.slice true (.ro kp) 0 (rzm l)],.int .i64 0] else .tup [.agg [.int .i64 0,.nils,.nils],.int .i64 4])∧∃ E,H=[none]++E):=by
 have hgood:=pgZ G B ks kp kd l h8 hL g;have hvt:=aI2 G B ks kp kb kd l hk h8 hL g;refine jN (rt:=96) (fn:=Try.f29) (c:=C3 Try.f29) (by kernel_rfl) (by kernel_rfl) (by kernel_rfl) fun ρ a w hH hF hdf=>?_;rw [aC8];have g0:=Fz (C:=(za G B)) (mix G B) [];refine wpIn_seq (wpIn_region_list ?_);show wpListIn (W none) 0 Try.prog (([oA,Fv]:List Oper).toArray) _ [oA,Fv] a w;unfold wpListIn;refine St.sound g0 (all:=[oA,Fv]) (o:=oA) (.write rfl (by kernel_rfl) (wA G B)) hH hF (r:=none) (fun ρ1 cv1 w1 hH1 hv1 hl1 hf1=>?_)
 have hF1:=(hF.mono hl1).put oA.dst _ cv1 hv1;unfold wpListIn;refine St.sound g0 (all:=[oA,Fv]) (o:=Fv) (.write rfl (by kernel_rfl) (wB9 G B)) hH1 hF1 (r:=none) (fun ρ2 cv2 w2 hH2 hv2 hl2 hf2=>?_);have hF2:=(hF1.mono hl2).put Fv.dst _ cv2 hv2;unfold wpListIn;show Code.wpIn (W none) 0 Try.prog _ _ _ _;refine wpIn_seq (wpIn_region_list ?_);show wpListIn (W none) 0 Try.prog (([oC,oD]:List Oper).toArray) _ [oC,oD] _ w2;unfold wpListIn
 refine St.sound g0 (all:=[oC,oD]) (o:=oC) (.pure rfl (by kernel_rfl) (pC (x:=.ptr (.rw 1) 0) (y:=.ptr (.rw 2) 0) (by kernel_rfl) (by kernel_rfl))) hH2 hF2 (r:=none) (fun ρ3 cv3 w3 hH3 hv3 hl3 hf3=>?_);have hF3:=(hF2.mono hl3).put oC.dst _ cv3 hv3;unfold wpListIn;rw [if_pos (by rfl)];have hv:=hF3.at 7;have e7:(put (put (put (K7 Try.f29 [.slice true (.ro kb) 0 l.length]) oA.dst (.ptr (.rw 1) 0)) Fv.dst (.ptr (.rw 2) 0)) oC.dst (.func 58 [.ptr (.rw 1) 0,.ptr (.rw 2) 0])).getD 7 .undef=.func 58 [.ptr (.rw 1) 0,.ptr (.rw 2) 0]:=by kernel_rfl
 replace hv:=(congrArg (fun x=>VR ρ3 x ((((a.put oA.dst cv1).put Fv.dst cv2).put oC.dst cv3).tmps.getD 7 undef)) e7).mp hv
 simp only [VR] at hv;obtain ⟨cs,hcs,hr⟩:=hv
 have hsz:cs.size=2:=by
  have:=E6 hr
  simpa using this
 obtain ⟨a3,ha3⟩:∃ a3,a3=((a.put oA.dst cv1).put Fv.dst cv2).put oC.dst cv3:=⟨_,rfl⟩;have hd3:a3.defers=[]:=by rw [ha3];exact hdf
 have hev:a3.eval (.tmp 7)=.func (.func 58) #[] cs:=by rw [ha3];exact hcs
 rw [←ha3] at hF3 ⊢
 have hrun:(oD.semAt (W none).round a3.eval).run Try.prog w3=.ok (.defer ⟨.fn (.func 58) cs,#[]⟩) w3:=by
  show (oD.semAt none a3.eval).run Try.prog w3=_;rw [Oper.semAt_none];simp [execOp,oD,resolve,hev,Deferred.ofValue,Sem.run_bind,Sem.run_pure]
 refine ⟨fun _ _=>trivial,?_⟩;rw [hrun];show Code.wpIn (W none) 0 Try.prog (O4 (O4 (C3 Try.f29))) _ ⟨a3.tmps,⟨.fn (.func 58) cs,#[]⟩::a3.defers⟩ w3;rw [hd3];have t2:VR ρ3 (.ptr (.rw 1) 0) (a3.tmps.getD 2 undef):=hF3.at 2;have t3:VR ρ3 (.ptr (.rw 2) 0) (a3.tmps.getD 3 undef):=hF3.at 3
 have hF4:D0 ρ3 (fl 55 [0,2,3] [.slice true (.ro kb) 0 l.length,.ptr (.rw 1) 0,.ptr (.rw 2) 0]) ⟨a3.tmps,[]⟩:=by
  refine Va jA.nil (by rw [←hF3.len];kernel_rfl) fun j i v h1 h2=>?_
  match j,h1,h2 with
  | 0,h1,h2=>
   simp at h1 h2;subst h1 h2;exact hF3.at 0
  | 1,h1,h2=>
   simp at h1 h2;subst h1 h2;exact t2
  | 2,h1,h2=>
   simp at h1 h2;subst h1 h2;exact t3
 have c23:VR ρ3 (.ptr (.rw 1) 0) cs[0]∧VR ρ3 (.ptr (.rw 2) 0) cs[1]:=by
  simp only [VRs] at hr;obtain ⟨p,vs1,q1,q2,p',vs2,q3,q4,q5⟩:=hr;have e:cs.toList=[p,p']:=by rw [q1,q3,q5]
  have e0:cs[0]=p:=by
   have:cs.toList[0]?=some p:=by rw [e];rfl
   simpa [Array.getElem?_toList,hsz] using this
  have e1:cs[1]=p':=by
   have:cs.toList[1]?=some p':=by rw [e];rfl
   simpa [Array.getElem?_toList,hsz] using this
  rw [e0,e1];exact ⟨q2,q4⟩
 have hp3:K3 1 ρ ρ3:=K3.of_le hH (Env.le_trans hl1 (Env.le_trans hl2 hl3)) (by simp);have hf:Frm ρ w ρ3 w3:=hf1.trans (hf2.trans hf3);have key:=mI (C:=(za G B)) hgood (fun _ _=>rfl) hvt none [⟨.fn (.func 58) cs,#[]⟩] [2,3] (by kernel_rfl) (ρ:=ρ3) (a:=⟨a3.tmps,[]⟩) (w:=w3) (by simp) hH3 hF4;refine Code.wpIn_mono ?_ key;rintro e a' w' ⟨a0,e0,hk,ρ',F',H',hX,j3,j4,j5,j6⟩;have j1:K3 1 ρ3 ρ':=fun i hi=>j3 i (by omega);refine ⟨_,a0,e0,?_⟩;rcases hX with ⟨ae,rfl,hq⟩ | ⟨rfl,hn,x,y,z,u,E,rfl⟩
 ·refine .inl ⟨idleD hsz,AP.link hp3 hf (AP.lvd ⟨ae,ρ',F',H',rfl,hq,j1,j4,j5,j6⟩ ?_)⟩;rintro e vs H' ⟨rfl,ho,rfl,E,rfl⟩;have hres:Kb (za G B) Try.f29 (fl 55 [0,2,3] [.slice true (.ro kb) 0 l.length,.ptr (.rw 1) 0,.ptr (.rw 2) 0]) ([none,some ⟨1,[.int .i64 (Gk l),.slice true (.ro ks) 0 (rzn l),.slice true (.ro kp) 0 (rzm l)]⟩,some ⟨1,[.int .i64 0]⟩]++E)=some (true,.tup [.agg [.int .i64 (Gk l),.slice true (.ro ks) 0 (rzn l),.slice true (.ro kp) 0 (rzm l)],.int .i64 0]):=by kernel_rfl
  unfold L1;rw [hres];exact ⟨by rw [if_pos ho],_,rfl⟩
 ·refine .inr ⟨rfl,ρ',F',_,hp3.trans j1,j4,j5,hf.trans j6,?_⟩;have k2:=hk 2 (by simp);have k3:=hk 3 (by simp);exact aH5 G B ks kp l hn hsz (Oy j3 (by omega) c23.1) (Oy j3 (by omega) c23.2) (by rw [k2];exact Oy j3 (by omega) t2) (by rw [k3];exact Oy j3 (by omega) t3)
theorem aZ1 (G:Nat→List AV) (B:Nat) (ks kp kb:Nat) (kd:Nat→Nat) (l:List AV) (hk:G kb=l) (h8:E4 l=true) (hL:l.length≤1000000) (g:Yh G ks kp kd l):ACalls (za G B) 29 [.slice true (.ro kb) 0 l.length] [none] fun v H=>v=(if Y1 G ks kp l=true then AV.tup [.agg [.int .i64 (Gk l),.slice true (.ro ks) 0 (rzn l),.slice true (.ro kp) 0 (rzm l)],.int .i64 0] else .tup [.agg [.int .i64 0,.nils,.nils],.int .i64 4])∧H=[none]:=by
 refine (aK2 G B ks kp kb kd l hk h8 hL g).view fun v H' ⟨e1,E,e2⟩=>⟨_,_,⟨rfl,rfl⟩,?_⟩;rw [e1,e2];cases Y1 G ks kp l with
 | true=>exact C5.same (by simp) (by simp [I1]) ⟨⟨by simp [B0,A6],rfl⟩,trivial⟩
 | false=>exact C5.same (by simp) (by simp [I1]) ⟨⟨by simp [B0,A6],rfl⟩,trivial⟩
theorem ACalls.unnone {C:A1} {f:FuncId} {args:List AV} {K:AV→Hp→Prop} (ha:J0 args=true) (h:ACalls C f args [none] K):ACalls C f args [] K:=by
 refine ⟨h.1,fun ρ w cargs hH hv=>?_⟩;have e:ρ.rw=[]:=List.length_eq_zero_iff.1 hH.len
 have one:∀ (i:Nat) (x:Q3),([none]:List (Option Q3))[i]?=some (some x)→False:=fun i x hx=>by
  match i,hx with
  | 0,hx=>simp at hx
  | i+1,hx=>simp at hx
 have hH1:B2 C ⟨[none],ρ.ro,ρ.dfs⟩ [none] w:=by
  refine ⟨rfl,hH.base,fun i x hx=>(one i x hx).elim,fun i b hb=>?_,fun i j b b' x x' hi=>?_,fun i b d hr=>?_,fun D hD=>?_⟩
  ·match i,hb with
   | 0,hb=>simp at hb
   | i+1,hb=>simp at hb
  ·match i,hi with
   | 0,hi=>simp at hi
   | i+1,hi=>simp at hi
  ·obtain ⟨q1,_,q3⟩:=hH.ro i b d hr;exact ⟨q1,fun j x y hj hy=>(one j y hy).elim,q3⟩
  ·obtain ⟨q1,_,q3⟩:=hH.df D hD;exact ⟨q1,fun i x hx=>(one i x hx).elim,q3⟩
 refine (h.2 ⟨[none],ρ.ro,ρ.dfs⟩ w cargs hH1 (Mx (ρ:=ρ) (ρ':=⟨[none],ρ.ro,ρ.dfs⟩) (fun _ _ _ h=>h) args cargs ha hv)).mono ?_;rintro ex w' ⟨v,cv,ρ',H',rfl,h2,h3,h4,h5,h6⟩;refine ⟨v,cv,ρ',H',rfl,h2,⟨fun i x hx=>by rw [e] at hx;simp at hx,h3.right,h3.dl⟩,h4,h5,⟨h6.os,h6.tape,h6.output,h6.size,fun b hb hc=>h6.keep b hb (hc.imp id fun _ i x hx=>(one i x hx).elim),fun i x hx=>?_,h6.ro,fun i b d hr=>?_,h6.mkn⟩⟩
 ·rcases h6.news i x hx with ⟨j,y,hy,_⟩ | h
  ·exact (one j y hy).elim
  ·exact .inr h
 ·rcases h6.newro i b d hr with h | h | h
  ·exact .inl h
  ·obtain ⟨j,y,hy,_⟩:=h;exact (one j y hy).elim
  ·exact .inr (.inr h)
theorem yY {G:Nat→List AV} {B:Nat} {ks kp kb:Nat} {kd:Nat→Nat} {l:List AV} (hk:G kb=l) (h8:E4 l=true) (hL:l.length≤1000000) (g:Yh G ks kp kd l) (ho:Y1 G ks kp l=false) :
  ACalls ⟨Try.prog,G,B⟩ 29 [.slice true (.ro kb) 0 l.length] [] fun v _=>v=.tup [.agg [.int .i64 0,.nils,.nils],.int .i64 4]:=
 ACalls.unnone rfl ((aZ1 G B ks kp kb kd l hk h8 hL g).monoK fun v H h=>by rw [h.1,if_neg (by rw [ho];decide)])
theorem aJ7 (G:Nat→List AV) (B:Nat) (ks kp kb kd0 n m:Nat) (s:Int) (hk:G kb=(E3 G s (G ks) n (G kp) m)) (O:Qi G ks kp kd0 n) (hb:Ad G ks kp n m) (hw:Z4 G ks kp n m) (hn:n≤1000000) (hm:m≤1000000) (hy:K1 s (G ks) n (G kp) m=true):ACalls (za G B) 29 [.slice true (.ro kb) 0 ((E3 G s (G ks) n (G kp) m)).length] [none] fun v H=>v=.tup [.agg [.int .i64 s,.slice true (.rw 7) 0 n,.slice true (.rw 16) 0 m],.int .i64 0]∧H=B8 G (Up G ks kp n m s)++[some ⟨1,(E3 G s (G ks) n (G kp) m)⟩]:=by
 obtain ⟨hgood,hvt⟩:=aL0 G B ks kp kb kd0 n m s hk O hb hw hn hm hy;refine oX (fn:=Try.f29) (c:=C3 Try.f29) (by kernel_rfl) (by kernel_rfl) (by kernel_rfl) fun ρ a w hH hF hdf=>?_;rw [aC8];have g0:=Fz (C:=(za G B)) (mix G B) [];refine wpIn_seq (wpIn_region_list ?_);show wpListIn (W none) 0 Try.prog (([oA,Fv]:List Oper).toArray) _ [oA,Fv] a w;unfold wpListIn;refine St.sound g0 (all:=[oA,Fv]) (o:=oA) (.write rfl (by kernel_rfl) (wA G B)) hH hF (r:=none) (fun ρ1 cv1 w1 hH1 hv1 hl1 hf1=>?_);have hF1:=(hF.mono hl1).put oA.dst _ cv1 hv1;unfold wpListIn
 refine St.sound g0 (all:=[oA,Fv]) (o:=Fv) (.write rfl (by kernel_rfl) (wB9 G B)) hH1 hF1 (r:=none) (fun ρ2 cv2 w2 hH2 hv2 hl2 hf2=>?_);have hF2:=(hF1.mono hl2).put Fv.dst _ cv2 hv2;unfold wpListIn;show Code.wpIn (W none) 0 Try.prog _ _ _ _;refine wpIn_seq (wpIn_region_list ?_);show wpListIn (W none) 0 Try.prog (([oC,oD]:List Oper).toArray) _ [oC,oD] _ w2;unfold wpListIn;refine St.sound g0 (all:=[oC,oD]) (o:=oC) (.pure rfl (by kernel_rfl) (pC (x:=.ptr (.rw 1) 0) (y:=.ptr (.rw 2) 0) (by kernel_rfl) (by kernel_rfl))) hH2 hF2 (r:=none) (fun ρ3 cv3 w3 hH3 hv3 hl3 hf3=>?_)
 have hF3:=(hF2.mono hl3).put oC.dst _ cv3 hv3;unfold wpListIn;rw [if_pos (by rfl)];have hv:=hF3.at 7;have e7:(put (put (put (K7 Try.f29 [.slice true (.ro kb) 0 ((E3 G s (G ks) n (G kp) m)).length]) oA.dst (.ptr (.rw 1) 0)) Fv.dst (.ptr (.rw 2) 0)) oC.dst (.func 58 [.ptr (.rw 1) 0,.ptr (.rw 2) 0])).getD 7 .undef=.func 58 [.ptr (.rw 1) 0,.ptr (.rw 2) 0]:=by kernel_rfl
 replace hv:=(congrArg (fun x=>VR ρ3 x ((((a.put oA.dst cv1).put Fv.dst cv2).put oC.dst cv3).tmps.getD 7 undef)) e7).mp hv
 simp only [VR] at hv;obtain ⟨cs,hcs,hr⟩:=hv
 have hsz:cs.size=2:=by
  have:=E6 hr
  simpa using this
 obtain ⟨a3,ha3⟩:∃ a3,a3=((a.put oA.dst cv1).put Fv.dst cv2).put oC.dst cv3:=⟨_,rfl⟩;have hd3:a3.defers=[]:=by rw [ha3];exact hdf
 have hev:a3.eval (.tmp 7)=.func (.func 58) #[] cs:=by rw [ha3];exact hcs
 rw [←ha3] at hF3 ⊢
 have hrun:(oD.semAt (W none).round a3.eval).run Try.prog w3=.ok (.defer ⟨.fn (.func 58) cs,#[]⟩) w3:=by
  show (oD.semAt none a3.eval).run Try.prog w3=_;rw [Oper.semAt_none];simp [execOp,oD,resolve,hev,Deferred.ofValue,Sem.run_bind,Sem.run_pure]
 refine ⟨fun _ _=>trivial,?_⟩;rw [hrun];show Code.wpIn (W none) 0 Try.prog (O4 (O4 (C3 Try.f29))) _ ⟨a3.tmps,⟨.fn (.func 58) cs,#[]⟩::a3.defers⟩ w3;rw [hd3]
 have hF4:D0 ρ3 (fl 55 [0,2,3] [.slice true (.ro kb) 0 ((E3 G s (G ks) n (G kp) m)).length,.ptr (.rw 1) 0,.ptr (.rw 2) 0]) ⟨a3.tmps,[]⟩:=by
  refine Va jA.nil (by rw [←hF3.len];kernel_rfl) fun j i v h1 h2=>?_
  match j,h1,h2 with
  | 0,h1,h2=>
   simp at h1 h2;subst h1 h2;exact hF3.at 0
  | 1,h1,h2=>
   simp at h1 h2;subst h1 h2;exact hF3.at 2
  | 2,h1,h2=>
   simp at h1 h2;subst h1 h2;exact hF3.at 3
 have hp3:K3 1 ρ ρ3:=K3.of_le hH (Env.le_trans hl1 (Env.le_trans hl2 hl3)) (by simp);have hf:Frm ρ w ρ3 w3:=hf1.trans (hf2.trans hf3);have key:=aO6 hgood [⟨.fn (.func 58) cs,#[]⟩] strt29 hvt (ρ:=ρ3) (a:=⟨a3.tmps,[]⟩) (w:=w3) (by simp) hH3 hF4;refine Code.wpIn_mono ?_ key;rintro e a' w' ⟨a0,e0,h⟩;refine ⟨_,a0,e0,idleD hsz,AP.link hp3 hf (AP.lvd h ?_)⟩;rintro e vs H' ⟨rfl,rfl,rfl⟩
 have hres:Kb (za G B) Try.f29 (fl 55 [0,2,3] [.slice true (.ro kb) 0 ((E3 G s (G ks) n (G kp) m)).length,.ptr (.rw 1) 0,.ptr (.rw 2) 0]) (B8 G (Up G ks kp n m s)++[some ⟨1,(E3 G s (G ks) n (G kp) m)⟩])=some (true,.tup [.agg [.int .i64 s,.slice true (.rw 7) 0 n,.slice true (.rw 16) 0 m],.int .i64 0]):=by kernel_rfl
 unfold L1;rw [hres];exact ⟨rfl,rfl⟩
theorem rd_own (G:Nat→List AV) (B:Nat) (ks kp kb kd0 n m:Nat) (s:Int) (hk:G kb=(E3 G s (G ks) n (G kp) m)) (O:Qi G ks kp kd0 n) (hb:Ad G ks kp n m) (hw:Z4 G ks kp n m) (hn:n≤1000000) (hm:m≤1000000) (hy:K1 s (G ks) n (G kp) m=true) :
  ACalls (za G B) 29 [.slice true (.ro kb) 0 ((E3 G s (G ks) n (G kp) m)).length] [] fun v H=>v=.tup [.agg [.int .i64 s,.slice true (.rw 0) 0 n,.slice true (.rw 1) 0 m],.int .i64 0]∧H=iJ G ks kp n m 2:=by
 have hS:=Dl hb hw hy;have h8:=hS.le8
 have fl1:∀ j,j<8→A6 0 (B1 (K8 G (G ks) n) j)=true:=fun j hj=>by
  rw [Jr hj];split
  ·rename_i hjn;exact B7 (hS.u8 hjn)
  ·rfl
 refine (ACalls.unnone rfl (aJ7 G B ks kp kb kd0 n m s hk O hb hw hn hm hy)).view fun v H' ⟨e1,e2⟩=>⟨_,_,⟨rfl,rfl⟩,?_⟩;subst e1 e2;have th:∀ j,j<10→((List.range 10).map fun j=>if j=0 then 7 else if j=1 then 16 else j+6).getD j 0=if j=0 then 7 else if j=1 then 16 else j+6:=fun j hj=>Fk (g:=fun j=>if j=0 then 7 else if j=1 then 16 else j+6) hj
 have rows:∀ q,q<8→(B8 G (Up G ks kp n m s)++[some ⟨1,(E3 G s (G ks) n (G kp) m)⟩])[q+8]?=some (some ⟨1,B1 (K8 G (G ks) n) q⟩):=fun q hq=>by
  match q,hq with
  | 0,_=>rfl
  | 1,_=>rfl
  | 2,_=>rfl
  | 3,_=>rfl
  | 4,_=>rfl
  | 5,_=>rfl
  | 6,_=>rfl
  | 7,_=>rfl
 refine C5.fn (N:=10) (fun j=>if j=0 then 7 else if j=1 then 16 else j+6) bB4 (zA8 _) (fun j hj=>absurd hj (Nat.not_lt_zero j)) (fun a b ha hb h=>?_) (fun j hj=>?_) rfl ?_
 ·split at h<;>split at h<;>(try split at h)<;>(try split at h)<;>omega
 ·match j,hj with
  | 0,_=>
   refine ⟨⟨4,G7 (G ks) n (dW 2 (G ks))⟩,⟨4,G7 (G ks) n (dW 8 (G ks))⟩,rfl,rfl,rfl,cY fun j hj=>?_,.inr ?_⟩
   ·show decide (2+j<10)=true;exact yI (by omega)
   ·rw [cX];refine Tk fun j hj=>?_;simp only [dW,C2,th (2+j) (by omega)];rw [if_neg (by omega),if_neg (by omega),show 2+j+6=8+j by omega]
  | 1,_=>
   have e:(iJ G ks kp n m 2)[1]?=some (some ⟨2,I8 (xP (G kp)) (G kp) m⟩):=by
    rw [←zC hb];rfl
   exact ⟨_,⟨2,I8 (xP (G kp)) (G kp) m⟩,e,rfl,rfl,Cw,.inr (B4 _ _ Cw).symm⟩
  | j+2,hj=>
   have hj8:j<8:=by omega
   have e:(iJ G ks kp n m 2)[j+2]?=some (some ⟨1,B1 (K8 G (G ks) n) j⟩):=by
    unfold iJ;rw [qP (by simp)];exact Mc hj8
   refine ⟨_,⟨1,B1 (K8 G (G ks) n) j⟩,e,?_,rfl,G2 (zA8 _) _ (fl1 j hj8),.inr (B4 _ _ (fl1 j hj8)).symm⟩;rw [if_neg (by omega),if_neg (by omega),show j+2+6=j+8 by omega];exact rows j hj8
 ·simp only [rens,C2,th 0 (by omega),th 1 (by omega)];exact ⟨rfl,trivial⟩
open Crc
theorem aW6 (x:Int):E4 (tN x)=true:=by
 simp only [E4,tN,List.all_cons,List.all_nil,Go.Am.b8,Kz,zO,qC,Bool.and_true];omega
theorem aO2 {G:Nat→List AV} {s:Int} {ks kp n m:Nat} (hb:Ad G ks kp n m):E4 (E3 G s (G ks) n (G kp) m)=true:=by
 rw [Zo,Bh,Bh,qK hb,aW6];rfl
theorem lG:∀ {a b:List AV},E4 a=true→E4 b=true→F8 a=F8 b→a=b
 | [],[],_,_,_=>rfl
 | [],_::_,_,_,h=>by simp [F8] at h
 | _::_,[],_,_,h=>by simp [F8] at h
 | x::a,y::b,ha,hb,h=>by
  simp only [E4,List.all_cons,zO] at ha hb;simp only [F8,List.map_cons,List.cons.injEq] at h;have e:=lG (a:=a) (b:=b) ha.2 hb.2 h.2
  have e1:x=y:=by
   have h1:=h.1;have a1:=ha.1;have b1:=hb.1;unfold Go.Am.b8 at a1 b1;split at a1
   ·split at b1
    ·rename_i n _ m;simp only [zO,qC] at a1 b1
     have:=congrArg UInt8.toNat h1
     simp only [Tb,UInt8.toNat_ofNat'] at this;congr 1;omega
    ·cases b1
   ·cases a1
  rw [e,e1]
open IntKind renaming wrap → wS
open Int renaming toNat → wZ
def Mh (k:Nat) (n:Nat) (a:Int):Hp:=[some ⟨1,([.slice true (.ro k) 4 n,.int .i64 a]:List AV)⟩]
theorem rb94 (G:Nat→List AV) (k n:Nat) (a v i:Int) (Q:Ex→List AV→Hp→Prop) (R:AV→Hp→Prop):vT G Q R (H4 (Dc Try.prog [] [] [] 1) 200 10 1 (A5 Try.f94 0) 72 [0,2,3,4,5] [.ptr (.rw 0) (.lit 0),.int .u64 (.lit 0),.int .i64 (.lit 0),.int .u64 (.var 1 v),.int .i64 (.var 2 i)] [some ⟨1,.of [.slice true (.ro (.var 6 k)) (.lit 4) (.var 4 n),.int .i64 (.var 5 a)]⟩])=(
  (decide ((i:Int)<10)=true→(decide ((wS .i64 (a+i):Int)<(n:Int))=true→decide ((0:Int)≤wS .i64 (a+i))=true∧decide ((wS .i64 (a+i):Int)<(n:Int))=true∧isI .u8 (G k) (wZ (wS .i64 (a+i))+4)=true∧(((i:Int)==9)=true→(decide ((A2 (G k) (wZ (wS .i64 (a+i))+4):Int)>1)=true→Q .ret [.ptr (.rw 0) 0,.int .u64 0,.int .i64 4,.int .u64 v,.int .i64 i] (Mh k n a))∧(decide ((A2 (G k) (wZ (wS .i64 (a+i))+4):Int)>1)=false→decide ((i:Int)>0)=true∧(((A2 (G k) (wZ (wS .i64 (a+i))+4):Int)==0)=true→Q .ret [.ptr (.rw 0) 0,.int .u64 0,.int .i64 4,.int .u64 v,.int .i64 i] (Mh k n a))∧(((A2 (G k) (wZ (wS .i64 (a+i))+4):Int)==0)=false→decide ((0:Int)≤wS .i64 (7*i))=true∧decide ((A2 (G k) (wZ (wS .i64 (a+i))+4):Int)<128)=true∧Q .ret [.ptr (.rw 0) 0,.int .u64 (wS .u64 (v+V7 .u64 (wS .u64 (Int.tmod (A2 (G k) (wZ (wS .i64 (a+i))+4)) 128)) (wS .i64 (7*i)))),.int .i64 0,.int .u64 (wS .u64 (v+V7 .u64 (wS .u64 (Int.tmod (A2 (G k) (wZ (wS .i64 (a+i))+4)) 128)) (wS .i64 (7*i)))),.int .i64 i] [some ⟨1,([.slice true (.ro k) 4 n,.int .i64 (wS .i64 (wS .i64 (a+i)+1))]:List AV)⟩])))∧(((i:Int)==9)=false→(decide ((i:Int)>0)=true→(((A2 (G k) (wZ (wS .i64 (a+i))+4):Int)==0)=true→Q .ret [.ptr (.rw 0) 0,.int .u64 0,.int .i64 4,.int .u64 v,.int .i64 i] (Mh k n a))∧(((A2 (G k) (wZ (wS .i64 (a+i))+4):Int)==0)=false→decide ((0:Int)≤wS .i64 (7*i))=true∧
 (decide ((A2 (G k) (wZ (wS .i64 (a+i))+4):Int)<128)=true→Q .ret [.ptr (.rw 0) 0,.int .u64 (wS .u64 (v+V7 .u64 (wS .u64 (Int.tmod (A2 (G k) (wZ (wS .i64 (a+i))+4)) 128)) (wS .i64 (7*i)))),.int .i64 0,.int .u64 (wS .u64 (v+V7 .u64 (wS .u64 (Int.tmod (A2 (G k) (wZ (wS .i64 (a+i))+4)) 128)) (wS .i64 (7*i)))),.int .i64 i] [some ⟨1,([.slice true (.ro k) 4 n,.int .i64 (wS .i64 (wS .i64 (a+i)+1))]:List AV)⟩])∧(decide ((A2 (G k) (wZ (wS .i64 (a+i))+4):Int)<128)=false→Q .normal [.ptr (.rw 0) 0,.int .u64 0,.int .i64 0,.int .u64 (wS .u64 (v+V7 .u64 (wS .u64 (Int.tmod (A2 (G k) (wZ (wS .i64 (a+i))+4)) 128)) (wS .i64 (7*i)))),.int .i64 (wS .i64 (i+1))] (Mh k n a))))∧(decide ((i:Int)>0)=false→decide ((0:Int)≤wS .i64 (7*i))=true∧(decide ((A2 (G k) (wZ (wS .i64 (a+i))+4):Int)<128)=true→Q .ret [.ptr (.rw 0) 0,.int .u64 (wS .u64 (v+V7 .u64 (wS .u64 (Int.tmod (A2 (G k) (wZ (wS .i64 (a+i))+4)) 128)) (wS .i64 (7*i)))),.int .i64 0,.int .u64 (wS .u64 (v+V7 .u64 (wS .u64 (Int.tmod (A2 (G k) (wZ (wS .i64 (a+i))+4)) 128)) (wS .i64 (7*i)))),.int .i64 i] [some ⟨1,([.slice true (.ro k) 4 n,.int .i64 (wS .i64 (wS .i64 (a+i)+1))]:List AV)⟩])∧(decide ((A2 (G k) (wZ (wS .i64 (a+i))+4):Int)<128)=false→
 Q .normal [.ptr (.rw 0) 0,.int .u64 0,.int .i64 0,.int .u64 (wS .u64 (v+V7 .u64 (wS .u64 (Int.tmod (A2 (G k) (wZ (wS .i64 (a+i))+4)) 128)) (wS .i64 (7*i)))),.int .i64 (wS .i64 (i+1))] (Mh k n a)))))∧(decide ((wS .i64 (a+i):Int)<(n:Int))=false→Q (.exit 0) [.ptr (.rw 0) 0,.int .u64 0,.int .i64 0,.int .u64 v,.int .i64 i] (Mh k n a)))∧(decide ((i:Int)<10)=false→Q (.exit 0) [.ptr (.rw 0) 0,.int .u64 0,.int .i64 0,.int .u64 v,.int .i64 i] (Mh k n a))):=by kernel_rfl
end Go.Am
