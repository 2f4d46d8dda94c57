/-
  Images as files: a section's and a place's form. Images as files: the lists of sections and of places.
-/
import Derived.Test.YthejjolnlngahaaPart16
import Derived.Test.YthejjolnlngahaaBase6
import Derived.Test.YthejjolnlngahaaPart15
import Derived.Test.YthejjolnlngahaaBase3
namespace Go.Am
open Go.Proofs
set_option maxRecDepth 100000
section
variable (G:Nat→List AV) (B:Nat)
theorem Mj :Q8 (⟨Try.prog,G,B⟩:A0) progP:=.cons (Ws (num9 G B)) (.cons (Ws (num12 G B)) (.cons (jA (bytes8 G B)) (.cons (jA (bA7 G B)) (.cons (oG (flag15 G B)) (.cons (oG (flag16 G B)) (.cons (aK4 G B) .nil))))))
def fN (x:Int):List AV:=B3 (Wu x.toNat)
def Y2 (a r:Int) (d:List AV) (y:Int):List AV:=((fN a++fN r)++(fN (d.length:Int)++d))++fN y
def Dg (a:Int) (h:Bool):List AV:=fN a++[.int .u8 (Es [.bool h])]
def Al (x:Int):Bool:=decide (0≤x)&&decide (x≤9223372036854775807)
theorem W8 {x:Int}:Al x=true↔0≤x∧x≤9223372036854775807:=by simp [Al]
theorem Yl {x:Int} (h:Al x=true):IntKind.wrap .u64 x=x:=Iu (by have:=W8.1 h;omega)
theorem Sc {x:Int} (h:Al x=true):inU64 [.int .u64 x]=true:=by
 have:=W8.1 h
 simp only [inU64,zN,xE];omega
theorem gN:∀ (a:List UInt8),u8s (B3 a)=true
 | []=>rfl
 | x::a=>by
  have:=gN a
  simp only [u8s,B3,List.map_cons,List.all_cons,Fc,Bool.true_and] at this ⊢;exact this
theorem Y7 (x:Int):u8s (fN x)=true:=gN _
theorem W9 (x:Int):(fN x).length≤10:=by unfold fN;rw [R1];exact iL _
theorem Rj {a r y:Int} {d:List AV} (h:u8s d=true):u8s (Y2 a r d y)=true:=by simp only [Y2,E4,Y7,h,Bool.and_self]
theorem gV {a r y:Int} {d:List AV}:(Y2 a r d y).length≤d.length+40:=by
 have h1:=W9 a;have h2:=W9 r;have h3:=W9 (d.length:Int);have h4:=W9 y;simp only [Y2,zA0];omega
theorem Rq {a:Int} {h:Bool}:u8s (Dg a h)=true:=by simp only [Dg,E4,Y7,Bool.true_and];rfl
theorem iC {a:Int} {h:Bool}:(Dg a h).length≤11:=by
 have:=W9 a
 simp only [Dg,zA0,List.length_cons,List.length_nil];omega
theorem backN {f:FuncId} {args:List AV} {C:A0} {mb:Bool} {q m:Nat} {cs:List AV} (hc:u8s cs=true) (h:ACalls C f args [] fun v' H'=>v'=.slice mb (.rw q) 0 m∧H'[q]?=some (some ⟨1,cs⟩)) :
  ACalls C f args [] fun v' H'=>v'=.slice mb (.rw 0) 0 m∧H'=[some ⟨1,cs⟩]:=by
 refine h.view fun v H' ⟨e1,e2⟩=>⟨_,_,⟨rfl,rfl⟩,?_⟩;have hl:=(zQ.1 e2).1;rw [e1];exact C2.renM (θ:=[q]) (by simp) (fun i hi=>absurd hi (by simp)) (by simp) ⟨⟨C4 hc,by rw [B9 _ _ (C4 (k:=0) hc)];exact e2⟩,trivial⟩ (by simp [A3,A8]) (by simp [rens,C0,wk])
theorem aU2 (a r y:Int) (k o l:Nat) (ha:Al a=true) (hr:Al r=true) (hy:Al y=true) (hl:l≤1099511627000) (ho:o+l≤(G k).length) (hu:u8s (G k)=true):ACalls (⟨Try.prog,G,B⟩:A0) 52 [.agg [.int .i64 a,.int .i64 r,.slice true (.ro k) o l,.int .i64 y]] [] fun v H=>v=.slice false (.rw 0) 0 (Y2 a r (A9 (G k) o l) y).length∧H=[some ⟨1,Y2 a r (A9 (G k) o l) y⟩]:=by
 have hd:(A9 (G k) o l).length=l:=by simp only [A9,List.length_take,List.length_drop];omega
 have hud:u8s (A9 (G k) o l)=true:=by
  unfold u8s at hu ⊢;rw [xM] at hu ⊢;intro v hv;exact hu v (List.mem_of_mem_drop (List.mem_of_mem_take hv))
 have e:=Rj (a:=a) (r:=r) (y:=y) hud;refine backN (q:=6) e ?_
 have key:=C1 (C:=(⟨Try.prog,G,B⟩:A0)) (f:=52) (fn:=Try.f52) (K:=Dc Try.prog [] progP [] 0) (R:=fun v H=>v=.slice false (.rw 6) 0 (Y2 a r (A9 (G k) o l) y).length∧∃ H0,H=H0++[some ⟨1,Y2 a r (A9 (G k) o l) y⟩]∧H0.length=6) (by rw [show B5 (C6 Try.f52)=[] by kernel_rfl];exact D7 (mix G B) (by kernel_rfl) (Mj G B) .nil) (by kernel_rfl) (by kernel_rfl) (by kernel_rfl) (fuel:=300) (n0:=20) (keep:=8) (args:=[.agg (.of [.int .i64 (.var 11 a),.int .i64 (.var 12 r),.slice true (.ro (.var 13 k)) (.var 14 o) (.var 15 l),.int .i64 (.var 16 y)])]) (H:=[]) (by
  rw [t52,Yl ha,Yl hr,Yl hy];have h1:=W9 a;have h2:=W9 r;have h3:=W9 (l:Int);have h4:=W9 y;have eq:∀ x:Int,B3 (A6 [.int .u64 x])=fN x:=fun x=>rfl;have el:∀ x:Int,(A6 [.int .u64 x]).length=(fN x).length:=fun x=>(R1 _).symm;simp only [eq,el];have e5:((fN a++fN r)++(fN (l:Int)++A9 (G k) o l))++fN y=Y2 a r (A9 (G k) o l) y:=by unfold Y2;rw [hd]
  rw [e5];refine ⟨Sc ha,Sc hr,B2.2 (by omega),B2.2 ho,hu,hud,Sc hy,zA3 _,zA3 _,?_,zA3 _,Y7 _,Y7 _,?_,Y7 _,B2.2 (by omega),rfl,[_,_,_,_,_,_],rfl,rfl⟩
  ·rw [zA0,hd];exact zA3 _
  ·rw [E4,Y7,hud];rfl)
 refine key.monoK fun v H ⟨h1,H0,h2,h3⟩=>⟨h1,?_⟩;have h4:(H.take 8)[6]?=some (some ⟨1,Y2 a r (A9 (G k) o l) y⟩):=by rw [h2,xN (by omega),h3];rfl
 rwa [qL,if_pos (by omega)] at h4
theorem pl_lay (a:Int) (h:Bool) (ha:Al a=true):ACalls (⟨Try.prog,G,B⟩:A0) 54 [.agg [.int .i64 a,.bool h]] [] fun v H=>v=.slice false (.rw 0) 0 (Dg a h).length∧H=[some ⟨1,Dg a h⟩]:=by
 refine backN (q:=4) Rq ?_
 have key:=C1 (C:=(⟨Try.prog,G,B⟩:A0)) (f:=54) (fn:=Try.f54) (K:=Dc Try.prog [] progP [] 0) (R:=fun v H=>v=.slice false (.rw 4) 0 (Dg a h).length∧∃ H0,H=H0++[some ⟨1,Dg a h⟩]∧H0.length=4) (by rw [show B5 (C6 Try.f54)=[] by kernel_rfl];exact D7 (mix G B) (by kernel_rfl) (Mj G B) .nil) (by kernel_rfl) (by kernel_rfl) (by kernel_rfl) (fuel:=300) (n0:=20) (keep:=6) (args:=[.agg (.of [.int .i64 (.var 11 a),.bool (.var 12 h)])]) (H:=[]) (by
  rw [t54,Yl ha];have h1:=W9 a;have eq:∀ x:Int,B3 (A6 [.int .u64 x])=fN x:=fun x=>rfl;have el:∀ x:Int,(A6 [.int .u64 x]).length=(fN x).length:=fun x=>(R1 _).symm;simp only [eq,el]
  exact ⟨Sc ha,zA3 _,rfl,Y7 _,rfl,B2.2 (by omega),rfl,[_,_,_,_],rfl,rfl⟩)
 refine key.monoK fun v H ⟨h1,H0,h2,h3⟩=>⟨h1,?_⟩;have h4:(H.take 6)[4]?=some (some ⟨1,Dg a h⟩):=by rw [h2,xN (by omega),h3];rfl
 rwa [qL,if_pos (by omega)] at h4
def lR (G:Nat→List AV):List AV→Bool:=fun xs=>match xs with
 | [.int _ a,.int _ r,.slice _ (.ro k) o l,.int _ y]=>Al a&&(Al r&&(Al y&&(leB l 1099511627000&&(leB (o+l) (G k).length&&u8s (G k)))))
 | _=>false
def W4 (G:Nat→List AV):List AV→List AV:=fun xs=>match xs with
 | [.int _ a,.int _ r,.slice _ (.ro k) o l,.int _ y]=>Y2 a r (A9 (G k) o l) y
 | _=>[]
def uP:List AV→Bool:=fun xs=>match xs with
 | [.int _ a,.bool _]=>Al a
 | _=>false
def Fa:List AV→List AV:=fun xs=>match xs with
 | [.int _ a,.bool h]=>Dg a h
 | _=>[]
def uZ (G:Nat→List AV):DSum:=fun xs H=>match xs with
 | [.agg (.of [.int .i64 a,.int .i64 r,.slice m (.ro k) o l,.int .i64 y])]=>some (.chk (.uf 2501 (lR G) [.int .i64 a,.int .i64 r,.slice m (.ro k) o l,.int .i64 y]) (.one (.slice false (.rw H.length) (.lit 0) (.len (.uf 2502 (W4 G) [.int .i64 a,.int .i64 r,.slice m (.ro k) o l,.int .i64 y]))) [.new ⟨1,.uf 2502 (W4 G) [.int .i64 a,.int .i64 r,.slice m (.ro k) o l,.int .i64 y]⟩]))
 | _=>none
theorem aK0 :D4 (⟨Try.prog,G,B⟩:A0) 52 (uZ G):=by
 intro xs H o ho;unfold uZ at ho;split at ho
 ·rename_i a r m k off l y;simp only [zK] at ho;subst ho;intro hb;simp only [vB,vVs,vV,vR,lR,zN] at hb;obtain ⟨h1,h2,h3,h4,h5,h6⟩:=hb;have key:=aU2 G B (vI G a) (vI G r) (vI G y) (vN G k) (vN G off) (vN G l) h1 h2 h3 (B2.1 h4) (B2.1 h5) h6
  have u:u8s (A9 (G (vN G k)) (vN G off) (vN G l))=true:=by
   unfold u8s at h6 ⊢;rw [xM] at h6 ⊢;intro v hv;exact h6 v (List.mem_of_mem_drop (List.mem_of_mem_take hv))
  have key2:ACalls (⟨Try.prog,G,B⟩:A0) 52 [.agg [.int .i64 (vI G a),.int .i64 (vI G r),.slice m (.ro (vN G k)) (vN G off) (vN G l),.int .i64 (vI G y)]] [] fun v H=>v=.slice false (.rw 0) 0 (Y2 (vI G a) (vI G r) (A9 (G (vN G k)) (vN G off) (vN G l)) (vI G y)).length∧H=[some ⟨1,Y2 (vI G a) (vI G r) (A9 (G (vN G k)) (vN G off) (vN G l)) (vI G y)⟩]:=key.weaken fun ρ vs hv=>by
   simp only [VRs,VR] at hv ⊢;obtain ⟨v,vs',r1,⟨us,r2,⟨x1,q1,r3,r4,x2,q2,r5,r6,x3,q3,r7,r8,r9⟩⟩,r10⟩:=hv;exact ⟨v,vs',r1,⟨us,r2,⟨x1,q1,r3,r4,x2,q2,r5,r6,x3,q3,r7,(by have:VR ρ (.slice true (.ro (vN G k)) (vN G off) (vN G l)) x3:=T1 (mb:=m) (by simpa only [VR] using r8);simpa only [VR] using this),r9⟩⟩,r10⟩
  refine E0.new0 (C:=(⟨Try.prog,G,B⟩:A0)) (args0:=[.agg [.int .i64 (vI G a),.int .i64 (vI G r),.slice m (.ro (vN G k)) (vN G off) (vN G l),.int .i64 (vI G y)]]) (v0:=.slice false (.rw 0) 0 (Y2 (vI G a) (vI G r) (A9 (G (vN G k)) (vN G off) (vN G l)) (vI G y)).length) ?_ ?_ (by simp [A3,A8]) (by simp only [vVs,vV,vR,vL]) (by simp [A8]) ?_
  ·simp only [D8,vL,vVs,vV,vR,W4];exact key2
  ·simp only [vL,vVs,vV,vR,W4];exact C4 (Rj u)
  ·simp [vV,vR,vN,vL,vVs,C0,W4]
 ·simp at ho
def layPS:DSum:=fun xs H=>match xs with
 | [.agg (.of [.int .i64 a,.bool h])]=>some (.chk (.uf 2503 uP [.int .i64 a,.bool h]) (.one (.slice false (.rw H.length) (.lit 0) (.len (.uf 2504 Fa [.int .i64 a,.bool h]))) [.new ⟨1,.uf 2504 Fa [.int .i64 a,.bool h]⟩]))
 | _=>none
theorem aK1 :D4 (⟨Try.prog,G,B⟩:A0) 54 layPS:=by
 intro xs H o ho;unfold layPS at ho;split at ho
 ·rename_i a h;simp only [zK] at ho;subst ho;intro hb;simp only [vB,vVs,vV,uP] at hb;refine E0.new0 (C:=(⟨Try.prog,G,B⟩:A0)) (args0:=[.agg [.int .i64 (vI G a),.bool (vB G h)]]) (v0:=.slice false (.rw 0) 0 (Dg (vI G a) (vB G h)).length) ?_ ?_ (by simp [A3,A8]) (by simp only [vVs,vV,vL]) (by simp [A8]) ?_
  ·simp only [D8,vL,vVs,vV,Fa];exact pl_lay G B _ _ hb
  ·simp only [vL,vVs,vV,Fa];exact C4 Rq
  ·simp [vV,vR,vN,vL,vVs,C0,Fa]
 ·simp at ho
def Kh (G:Nat→List AV):List (Nat×DSum):=(52,uZ G)::(54,layPS)::progP
theorem Rp :Q8 (⟨Try.prog,G,B⟩:A0) (Kh G):=.cons (aK0 G B) (.cons (aK1 G B) (Mj G B))
theorem pt_b (ks n k:Nat) (cs:List AV) (Q:Ex→List AV→Hp→Prop) (R:AV→Hp→Prop):vT G Q R (G3 (Dc Try.prog [] (Kh G) [] 0) 300 20 0 (A2 Try.f51 0) 28 [1,6,15,16,17] [.func 52 [],.slice false (.rw 0) (.lit 0) (.len (.var 21 cs)),.slice true (.ro (.var 24 ks)) (.lit 0) (.var 3 n),.int .i64 (.ofN (.var 3 n)),.int .i64 (.ofN (.var 8 k))] [some ⟨1,.var 21 cs⟩])=(
  (decide (((k:Int):Int)<(n:Int))=true→decide ((0:Int)≤(k:Int))=true∧decide (((k:Int):Int)<(n:Int))=true∧E5 (G ks) (k*4) [.int .i64,.int .i64,.sl,.int .i64]=true∧(lR G) [.int .i64 (A1 (G ks) (k*4)),.int .i64 (A1 (G ks) (k*4+1)),.slice true (.ro (C8 (G ks) (k*4+2))) (E9 (G ks) (k*4+2)) (C7 (G ks) (k*4+2)),.int .i64 (A1 (G ks) (k*4+3))]=true∧leB (List.length ((W4 G) [.int .i64 (A1 (G ks) (k*4)),.int .i64 (A1 (G ks) (k*4+1)),.slice true (.ro (C8 (G ks) (k*4+2))) (E9 (G ks) (k*4+2)) (C7 (G ks) (k*4+2)),.int .i64 (A1 (G ks) (k*4+3))])) (List.length ((W4 G) [.int .i64 (A1 (G ks) (k*4)),.int .i64 (A1 (G ks) (k*4+1)),.slice true (.ro (C8 (G ks) (k*4+2))) (E9 (G ks) (k*4+2)) (C7 (G ks) (k*4+2)),.int .i64 (A1 (G ks) (k*4+3))]))=true∧cellsB (A9 ((W4 G) [.int .i64 (A1 (G ks) (k*4)),.int .i64 (A1 (G ks) (k*4+1)),.slice true (.ro (C8 (G ks) (k*4+2))) (E9 (G ks) (k*4+2)) (C7 (G ks) (k*4+2)),.int .i64 (A1 (G ks) (k*4+3))]) 0 (List.length ((W4 G) [.int .i64 (A1 (G ks) (k*4)),.int .i64 (A1 (G ks) (k*4+1)),.slice true (.ro (C8 (G ks) (k*4+2))) (E9 (G ks) (k*4+2)) (C7 (G ks) (k*4+2)),.int .i64 (A1 (G ks) (k*4+3))])))=true∧leB (List.length cs+List.length ((W4 G) [.int .i64 (A1 (G ks) (k*4)),.int .i64 (A1 (G ks) (k*4+1)),.slice true (.ro (C8 (G ks) (k*4+2))) (E9 (G ks) (k*4+2)) (C7 (G ks) (k*4+2)),.int .i64 (A1 (G ks) (k*4+3))])) 140737488355328=true∧Nat.beq (List.length cs) (List.length cs)=true∧
 Q .normal [.func 52 [],.slice false (.rw 3) 0 (List.length cs+List.length ((W4 G) [.int .i64 (A1 (G ks) (k*4)),.int .i64 (A1 (G ks) (k*4+1)),.slice true (.ro (C8 (G ks) (k*4+2))) (E9 (G ks) (k*4+2)) (C7 (G ks) (k*4+2)),.int .i64 (A1 (G ks) (k*4+3))])),.slice true (.ro ks) 0 n,.int .i64 ((n:Int)),.int .i64 (IntKind.wrap .i64 ((k:Int)+1))] [none,some ⟨1,([.int .i64 (A1 (G ks) (k*4)),.int .i64 (A1 (G ks) (k*4+1)),.slice true (.ro (C8 (G ks) (k*4+2))) (E9 (G ks) (k*4+2)) (C7 (G ks) (k*4+2)),.int .i64 (A1 (G ks) (k*4+3))]:List AV)⟩,some ⟨1,((W4 G) [.int .i64 (A1 (G ks) (k*4)),.int .i64 (A1 (G ks) (k*4+1)),.slice true (.ro (C8 (G ks) (k*4+2))) (E9 (G ks) (k*4+2)) (C7 (G ks) (k*4+2)),.int .i64 (A1 (G ks) (k*4+3))])⟩,some ⟨1,(cs++(A9 ((W4 G) [.int .i64 (A1 (G ks) (k*4)),.int .i64 (A1 (G ks) (k*4+1)),.slice true (.ro (C8 (G ks) (k*4+2))) (E9 (G ks) (k*4+2)) (C7 (G ks) (k*4+2)),.int .i64 (A1 (G ks) (k*4+3))]) 0 (List.length ((W4 G) [.int .i64 (A1 (G ks) (k*4)),.int .i64 (A1 (G ks) (k*4+1)),.slice true (.ro (C8 (G ks) (k*4+2))) (E9 (G ks) (k*4+2)) (C7 (G ks) (k*4+2)),.int .i64 (A1 (G ks) (k*4+3))]))))⟩])∧(decide (((k:Int):Int)<(n:Int))=false→Q (.exit 0) [.func 52 [],.slice false (.rw 0) 0 (List.length cs),.slice true (.ro ks) 0 n,.int .i64 ((n:Int)),.int .i64 ((k:Int))] [some ⟨1,cs⟩])):=by kernel_rfl
theorem pt_p (kp m k:Nat) (cs:List AV) (Q:Ex→List AV→Hp→Prop) (R:AV→Hp→Prop):vT G Q R (G3 (Dc Try.prog [] (Kh G) [] 0) 300 20 0 (A2 Try.f53 0) 28 [1,6,15,16,17] [.func 54 [],.slice false (.rw 0) (.lit 0) (.len (.var 21 cs)),.slice true (.ro (.var 25 kp)) (.lit 0) (.var 4 m),.int .i64 (.ofN (.var 4 m)),.int .i64 (.ofN (.var 8 k))] [some ⟨1,.var 21 cs⟩])=(
  (decide (((k:Int):Int)<(m:Int))=true→decide ((0:Int)≤(k:Int))=true∧decide (((k:Int):Int)<(m:Int))=true∧E5 (G kp) (k*2) [.int .i64,.bool]=true∧uP [.int .i64 (A1 (G kp) (k*2)),.bool (E1 (G kp) (k*2+1))]=true∧leB (List.length (Fa [.int .i64 (A1 (G kp) (k*2)),.bool (E1 (G kp) (k*2+1))])) (List.length (Fa [.int .i64 (A1 (G kp) (k*2)),.bool (E1 (G kp) (k*2+1))]))=true∧cellsB (A9 (Fa [.int .i64 (A1 (G kp) (k*2)),.bool (E1 (G kp) (k*2+1))]) 0 (List.length (Fa [.int .i64 (A1 (G kp) (k*2)),.bool (E1 (G kp) (k*2+1))])))=true∧leB (List.length cs+List.length (Fa [.int .i64 (A1 (G kp) (k*2)),.bool (E1 (G kp) (k*2+1))])) 140737488355328=true∧Nat.beq (List.length cs) (List.length cs)=true∧Q .normal [.func 54 [],.slice false (.rw 3) 0 (List.length cs+List.length (Fa [.int .i64 (A1 (G kp) (k*2)),.bool (E1 (G kp) (k*2+1))])),.slice true (.ro kp) 0 m,.int .i64 ((m:Int)),.int .i64 (IntKind.wrap .i64 ((k:Int)+1))] [none,some ⟨1,([.int .i64 (A1 (G kp) (k*2)),.bool (E1 (G kp) (k*2+1))]:List AV)⟩,some ⟨1,(Fa [.int .i64 (A1 (G kp) (k*2)),.bool (E1 (G kp) (k*2+1))])⟩,some ⟨1,(cs++(A9 (Fa [.int .i64 (A1 (G kp) (k*2)),.bool (E1 (G kp) (k*2+1))]) 0 (List.length (Fa [.int .i64 (A1 (G kp) (k*2)),.bool (E1 (G kp) (k*2+1))]))))⟩])∧(decide (((k:Int):Int)<(m:Int))=false→Q (.exit 0) [.func 54 [],.slice false (.rw 0) 0 (List.length cs),.slice true (.ro kp) 0 m,.int .i64 ((m:Int)),.int .i64 ((k:Int))] [some ⟨1,cs⟩])):=by kernel_rfl
end
section
variable (G:Nat→List AV) (B:Nat)
def Lt (G:Nat→List AV) (cs:List AV) (k:Nat):List AV:=Y2 (sA cs k) (sR cs k) (N4 G cs k) (sZ cs k)
def I5 (G:Nat→List AV) (cs:List AV):Nat→List AV
 | 0=>[]
 | k+1=>I5 G cs k++Lt G cs k
def Js (ps:List AV) (j:Nat):List AV:=Dg (xP ps j) (hP ps j)
def G5 (ps:List AV):Nat→List AV
 | 0=>[]
 | j+1=>G5 ps j++Js ps j
theorem Pl {G:Nat→List AV} {cs:List AV}:∀ {n:Nat},(∀ j,j<n→u8s (N4 G cs j)=true)→u8s (I5 G cs n)=true
 | 0,_=>rfl
 | n+1,h=>by rw [I5,E4,Pl (n:=n) fun j hj=>h j (by omega),Lt,Rj (h n (by omega))];rfl
theorem Mk {ps:List AV}:∀ {n:Nat},u8s (G5 ps n)=true
 | 0=>rfl
 | n+1=>by rw [G5,E4,Mk (n:=n),Js,Rq];rfl
theorem Ys {G:Nat→List AV} {cs:List AV}:∀ {n:Nat},(∀ j,j<n→(N4 G cs j).length≤8192)→(I5 G cs n).length≤n*8232
 | 0,_=>by simp [I5]
 | n+1,h=>by
  have h1:=Ys (n:=n) fun j hj=>h j (by omega);have h2:=gV (a:=sA cs n) (r:=sR cs n) (d:=N4 G cs n) (y:=sZ cs n);have h3:=h n (by omega);rw [I5,zA0,Lt];omega
theorem Ui {ps:List AV}:∀ {n:Nat},(G5 ps n).length≤n*11
 | 0=>by simp [G5]
 | n+1=>by
  have h1:=Ui (ps:=ps) (n:=n);have h2:=iC (a:=xP ps n) (h:=hP ps n);rw [G5,zA0,Js];omega
structure Oy (G:Nat→List AV) (cs:List AV) (n:Nat):Prop where
 le8:n≤8
 ok:I6 cs n=true
 num:∀ j,j<n→Al (sA cs j)=true∧Al (sR cs j)=true∧Al (sZ cs j)=true
 dat:∀ j,j<n→u8s (G (C8 cs (j*4+2)))=true∧E9 cs (j*4+2)+sN cs j≤(G (C8 cs (j*4+2))).length∧sN cs j≤8192
theorem Oy.u8 {G:Nat→List AV} {cs:List AV} {n:Nat} (h:Oy G cs n) {j:Nat} (hj:j<n):u8s (N4 G cs j)=true:=by
 have:=(h.dat j hj).1
 unfold N4 u8s A9 at *;rw [xM] at this ⊢;intro v hv;exact this v (List.mem_of_mem_drop (List.mem_of_mem_take hv))
theorem Oy.len {G:Nat→List AV} {cs:List AV} {n:Nat} (h:Oy G cs n) {j:Nat} (hj:j<n):(N4 G cs j).length=sN cs j:=by
 obtain ⟨_,h2,_⟩:=h.dat j hj;have e:C7 cs (j*4+2)=sN cs j:=rfl;simp only [N4,A9,List.length_take,List.length_drop,e];omega
structure PlcF (ps:List AV) (m:Nat):Prop where
 le:m≤512
 ok:Q4 ps m=true
 num:∀ j,j<m→Al (xP ps j)=true
theorem Po {G:Nat→List AV} {s:Int} {ks kp n m:Nat} (hb:T2 G ks kp n m) (hw:Gx G ks kp n m) (hy:E8 s (G ks) n (G kp) m=true):Oy G (G ks) n where
 le8:=(Ai hy).1.1
 ok:=hb.sec
 num j hj:=by
  obtain ⟨h1,h2,h3,h4⟩:=Z4 hy j hj;have sb:=U2.1 h4;refine ⟨W8.2 (by omega),W8.2 (by omega),W8.2 (by omega)⟩
 dat j hj:=by
  obtain ⟨h1,h2,h3,h4⟩:=dat_at hb hw hj;have h5:=(Z4 hy j hj).2.2.1;rw [h1];exact ⟨cN,by rw [h4,Ga,h2];omega,h5⟩
theorem aW0 (ks n:Nat) (A:List AV) (hA:u8s A=true) (hl:A.length≤1000) (h:Oy G (G ks) n):AWp (⟨Try.prog,G,B⟩:A0) 0 (.loop (A2 Try.f51 0)) (fl 28 [1,6,15,16,17] [.func 52 [],.slice false (.rw 0) 0 A.length,.slice true (.ro ks) 0 n,.int .i64 (n:Int),.int .i64 0]) [some ⟨1,A⟩] (lv 28 [1,6,15,16,17] fun e vs H=>e=.exit 0∧wk [.undef,.slice false (.rw 0) 0 (A++I5 G (G ks) n).length,.undef,.undef,.undef] vs∧H=[some ⟨1,A++I5 G (G ks) n⟩]):=by
 have e0:A=A++I5 G (G ks) 0:=by rw [I5,List.append_nil]
 have start:AWp (⟨Try.prog,G,B⟩:A0) 0 (.loop (A2 Try.f51 0)) (fl 28 [1,6,15,16,17] [.func 52 [],.slice false (.rw 0) 0 (A++I5 G (G ks) 0).length,.slice true (.ro ks) 0 n,.int .i64 (n:Int),.int .i64 ((0:Nat):Int)]) [some ⟨1,A++I5 G (G ks) 0⟩] (lv 28 [1,6,15,16,17] fun e vs H=>e=.exit 0∧wk [.undef,.slice false (.rw 0) 0 (A++I5 G (G ks) n).length,.undef,.undef,.undef] vs∧H=[some ⟨1,A++I5 G (G ks) n⟩]):=by
  refine X7 n (fun k=>[.func 52 [],.slice false (.rw 0) 0 (A++I5 G (G ks) k).length,.slice true (.ro ks) 0 n,.int .i64 (n:Int),.int .i64 (k:Int)]) (fun k=>[some ⟨1,A++I5 G (G ks) k⟩]) fun k hk=>?_
  refine D1 (C:=(⟨Try.prog,G,B⟩:A0)) (K:=Dc Try.prog [] (Kh G) [] 0) (by rw [show B5 (A2 Try.f51 0)=[] by kernel_rfl];exact D7 (mix G B) (by kernel_rfl) (Rp G B) .nil) (fuel:=300) (n0:=20) (m:=0) (c:=A2 Try.f51 0) (vs:=[.func 52 [],.slice false (.rw 0) (.lit 0) (.len (.var 21 (A++I5 G (G ks) k))),.slice true (.ro (.var 24 ks)) (.lit 0) (.var 3 n),.int .i64 (.ofN (.var 3 n)),.int .i64 (.ofN (.var 8 k))]) (H:=[some ⟨1,.var 21 (A++I5 G (G ks) k)⟩]) (zA2 _) ?_;rw [pt_b];have h8:=h.le8;refine ⟨fun hlt=>?_,fun hge=>?_⟩
  ·have hlt':=yL hlt;have hkn:k<n:=by omega
   obtain ⟨n1,n2,n3⟩:=h.num k hkn;obtain ⟨d1,d2,d3⟩:=h.dat k hkn;have ew:W4 G [.int .i64 (A1 (G ks) (k*4)),.int .i64 (A1 (G ks) (k*4+1)),.slice true (.ro (C8 (G ks) (k*4+2))) (E9 (G ks) (k*4+2)) (C7 (G ks) (k*4+2)),.int .i64 (A1 (G ks) (k*4+3))]=Lt G (G ks) k:=rfl;rw [ew];have uw:u8s (Lt G (G ks) k)=true:=Rj (h.u8 hkn)
   have lw:(Lt G (G ks) k).length≤8232:=by
    have h2:=gV (a:=sA (G ks) k) (r:=sR (G ks) k) (d:=N4 G (G ks) k) (y:=sZ (G ks) k)
    have:=h.len hkn
    unfold Lt;omega
   have us:u8s (I5 G (G ks) k)=true:=Pl fun j hj=>h.u8 (by omega);have ls:(I5 G (G ks) k).length≤k*8232:=Ys fun j hj=>by rw [h.len (by omega)];exact (h.dat j (by omega)).2.2
   have sub:A9 (Lt G (G ks) k) 0 (Lt G (G ks) k).length=Lt G (G ks) k:=by simp [A9]
   rw [sub];have eA:(A++I5 G (G ks) k)++Lt G (G ks) k=A++I5 G (G ks) (k+1):=by rw [I5,List.append_assoc]
   have eL:(A++I5 G (G ks) k).length+(Lt G (G ks) k).length=(A++I5 G (G ks) (k+1)).length:=by rw [←eA];simp only [zA0]
   rw [eA,eL];refine ⟨yM (by omega),hlt,M9 h.ok hkn,?_,B2.2 (zA1 _),L8 uw,B2.2 (by rw [←eL,zA0];omega),zA3 _,hkn,.inr ?_⟩
   ·show (Al (sA (G ks) k)&&(Al (sR (G ks) k)&&(Al (sZ (G ks) k)&&(leB (sN (G ks) k) 1099511627000&&(leB (E9 (G ks) (k*4+2)+sN (G ks) k) (G (C8 (G ks) (k*4+2))).length&&u8s (G (C8 (G ks) (k*4+2))))))))=true;rw [n1,n2,n3,d1,B2.2 d2,B2.2 (show sN (G ks) k≤1099511627000 by omega)];rfl
   ·rw [B6 (by omega)];have f:A3 0 (A++I5 G (G ks) (k+1))=true:=C4 (by rw [E4,hA,I5,E4,us,uw];rfl);exact C2.renM (H:=[some ⟨1,A++I5 G (G ks) (k+1)⟩]) (θ:=[3]) (zA2 _) (fun i hi=>absurd hi (Nat.not_lt_zero i)) (by decide) ⟨⟨G6 (zA2 _) _ f,by rw [B9 [3] _ f];rfl⟩,trivial⟩ rfl ⟨rfl,rfl,rfl,rfl,rfl,trivial⟩
  ·have hge':=yP hge;obtain rfl:k=n:=by omega
   exact ⟨rfl,by simp [wk],rfl⟩
 rw [←e0] at start;exact start
theorem aW1 (kp m:Nat) (A:List AV) (hA:u8s A=true) (hl:A.length≤1000) (h:PlcF (G kp) m):AWp (⟨Try.prog,G,B⟩:A0) 0 (.loop (A2 Try.f53 0)) (fl 28 [1,6,15,16,17] [.func 54 [],.slice false (.rw 0) 0 A.length,.slice true (.ro kp) 0 m,.int .i64 (m:Int),.int .i64 0]) [some ⟨1,A⟩] (lv 28 [1,6,15,16,17] fun e vs H=>e=.exit 0∧wk [.undef,.slice false (.rw 0) 0 (A++G5 (G kp) m).length,.undef,.undef,.undef] vs∧H=[some ⟨1,A++G5 (G kp) m⟩]):=by
 have e0:A=A++G5 (G kp) 0:=by rw [G5,List.append_nil]
 have start:AWp (⟨Try.prog,G,B⟩:A0) 0 (.loop (A2 Try.f53 0)) (fl 28 [1,6,15,16,17] [.func 54 [],.slice false (.rw 0) 0 (A++G5 (G kp) 0).length,.slice true (.ro kp) 0 m,.int .i64 (m:Int),.int .i64 ((0:Nat):Int)]) [some ⟨1,A++G5 (G kp) 0⟩] (lv 28 [1,6,15,16,17] fun e vs H=>e=.exit 0∧wk [.undef,.slice false (.rw 0) 0 (A++G5 (G kp) m).length,.undef,.undef,.undef] vs∧H=[some ⟨1,A++G5 (G kp) m⟩]):=by
  refine X7 m (fun k=>[.func 54 [],.slice false (.rw 0) 0 (A++G5 (G kp) k).length,.slice true (.ro kp) 0 m,.int .i64 (m:Int),.int .i64 (k:Int)]) (fun k=>[some ⟨1,A++G5 (G kp) k⟩]) fun k hk=>?_
  refine D1 (C:=(⟨Try.prog,G,B⟩:A0)) (K:=Dc Try.prog [] (Kh G) [] 0) (by rw [show B5 (A2 Try.f53 0)=[] by kernel_rfl];exact D7 (mix G B) (by kernel_rfl) (Rp G B) .nil) (fuel:=300) (n0:=20) (m:=0) (c:=A2 Try.f53 0) (vs:=[.func 54 [],.slice false (.rw 0) (.lit 0) (.len (.var 21 (A++G5 (G kp) k))),.slice true (.ro (.var 25 kp)) (.lit 0) (.var 4 m),.int .i64 (.ofN (.var 4 m)),.int .i64 (.ofN (.var 8 k))]) (H:=[some ⟨1,.var 21 (A++G5 (G kp) k)⟩]) (zA2 _) ?_;rw [pt_p];have h8:=h.le;refine ⟨fun hlt=>?_,fun hge=>?_⟩
  ·have hlt':=yL hlt;have hkn:k<m:=by omega
   have ew:Fa [.int .i64 (A1 (G kp) (k*2)),.bool (E1 (G kp) (k*2+1))]=Js (G kp) k:=rfl;rw [ew];have uw:u8s (Js (G kp) k)=true:=Rq;have lw:(Js (G kp) k).length≤11:=iC;have us:u8s (G5 (G kp) k)=true:=Mk;have ls:(G5 (G kp) k).length≤k*11:=Ui;have sub:A9 (Js (G kp) k) 0 (Js (G kp) k).length=Js (G kp) k:=by simp [A9]
   rw [sub];have eA:(A++G5 (G kp) k)++Js (G kp) k=A++G5 (G kp) (k+1):=by rw [G5,List.append_assoc]
   have eL:(A++G5 (G kp) k).length+(Js (G kp) k).length=(A++G5 (G kp) (k+1)).length:=by rw [←eA];simp only [zA0]
   rw [eA,eL];refine ⟨yM (by omega),hlt,(S1 h.ok hkn).1,h.num k hkn,B2.2 (zA1 _),L8 uw,B2.2 (by rw [←eL,zA0];omega),zA3 _,hkn,.inr ?_⟩;rw [B6 (by omega)];have f:A3 0 (A++G5 (G kp) (k+1))=true:=C4 (by rw [E4,hA,G5,E4,us,uw];rfl);exact C2.renM (H:=[some ⟨1,A++G5 (G kp) (k+1)⟩]) (θ:=[3]) (zA2 _) (fun i hi=>absurd hi (Nat.not_lt_zero i)) (by decide) ⟨⟨G6 (zA2 _) _ f,by rw [B9 [3] _ f];rfl⟩,trivial⟩ rfl ⟨rfl,rfl,rfl,rfl,rfl,trivial⟩
  ·have hge':=yP hge;obtain rfl:k=m:=by omega
   exact ⟨rfl,by simp [wk],rfl⟩
 rw [←e0] at start;exact start
theorem t51 (q1:List AV→Bool) (ks n:Nat) (w:List AV) (Q:Ex→List AV→Hp→Prop) (R:AV→Hp→Prop):vT G Q R (G0 (Dc Try.prog [] (Kh G) [D6 2505 q1 0 28 [1,6,15,16,17] (.one (.exit 0) [.undef,.slice false (.rw 0) (.lit 0) (.len (.var 22 w)),.undef,.undef,.undef] [some ⟨1,.var 22 w⟩])] 0) 300 20 Try.f51 [.slice true (.ro (.var 24 ks)) (.lit 0) (.var 3 n),.func 52 []] [] 1)=(
  inU64 [.int .u64 (IntKind.wrap .u64 ((n:Int)))]=true∧q1 [.agg ([.func 52 [],.slice false (.rw 0) 0 (List.length (A6 [.int .u64 (IntKind.wrap .u64 ((n:Int)))])),.slice true (.ro ks) 0 n,.int .i64 ((n:Int)),.int .i64 0]:List AV),.agg ([.tup [.int .i64 1,.agg (B3 (A6 [.int .u64 (IntKind.wrap .u64 ((n:Int)))]))]]:List AV)]=true∧R (.tup [.slice false (.rw 0) 0 (List.length w),.int .i64 0]) [some ⟨1,w⟩]):=by kernel_rfl
theorem t53 (q2:List AV→Bool) (kp m:Nat) (w:List AV) (Q:Ex→List AV→Hp→Prop) (R:AV→Hp→Prop):vT G Q R (G0 (Dc Try.prog [] (Kh G) [D6 2506 q2 0 28 [1,6,15,16,17] (.one (.exit 0) [.undef,.slice false (.rw 0) (.lit 0) (.len (.var 22 w)),.undef,.undef,.undef] [some ⟨1,.var 22 w⟩])] 0) 300 20 Try.f53 [.slice true (.ro (.var 25 kp)) (.lit 0) (.var 4 m),.func 54 []] [] 1)=(
  inU64 [.int .u64 (IntKind.wrap .u64 ((m:Int)))]=true∧q2 [.agg ([.func 54 [],.slice false (.rw 0) 0 (List.length (A6 [.int .u64 (IntKind.wrap .u64 ((m:Int)))])),.slice true (.ro kp) 0 m,.int .i64 ((m:Int)),.int .i64 0]:List AV),.agg ([.tup [.int .i64 1,.agg (B3 (A6 [.int .u64 (IntKind.wrap .u64 ((m:Int)))]))]]:List AV)]=true∧R (.tup [.slice false (.rw 0) 0 (List.length w),.int .i64 0]) [some ⟨1,w⟩]):=by kernel_rfl
end
open Crc
section
variable (G:Nat→List AV) (B:Nat)
theorem aK9 (Q:AV→Hp→Prop):vc (Kc (⟨Try.prog,G,B⟩:A0)) 1000 0 (.code (C6 Try.f97)) (N3 Try.f97 []) [] (N0 (⟨Try.prog,G,B⟩:A0) Try.f97 Q)=(
  Q (.agg [.int IntKind.u32 ((0:Int)),.int IntKind.u32 ((274646895:Int)),.int IntKind.u32 ((549293790:Int)),.int IntKind.u32 ((820201905:Int)),.int IntKind.u32 ((1098587580:Int)),.int IntKind.u32 ((1361435347:Int)),.int IntKind.u32 ((1640403810:Int)),.int IntKind.u32 ((1905808397:Int)),.int IntKind.u32 ((2197175160:Int)),.int IntKind.u32 ((2460548119:Int)),.int IntKind.u32 ((2722870694:Int)),.int IntKind.u32 ((2987750089:Int)),.int IntKind.u32 ((3280807620:Int)),.int IntKind.u32 ((3553878443:Int)),.int IntKind.u32 ((3811616794:Int)),.int IntKind.u32 ((4084100981:Int))]) [some ⟨1,[.int IntKind.u32 ((0:Int)),.int IntKind.u32 ((274646895:Int)),.int IntKind.u32 ((549293790:Int)),.int IntKind.u32 ((820201905:Int)),.int IntKind.u32 ((1098587580:Int)),.int IntKind.u32 ((1361435347:Int)),.int IntKind.u32 ((1640403810:Int)),.int IntKind.u32 ((1905808397:Int)),.int IntKind.u32 ((2197175160:Int)),.int IntKind.u32 ((2460548119:Int)),.int IntKind.u32 ((2722870694:Int)),.int IntKind.u32 ((2987750089:Int)),.int IntKind.u32 ((3280807620:Int)),.int IntKind.u32 ((3553878443:Int)),.int IntKind.u32 ((3811616794:Int)),.int IntKind.u32 ((4084100981:Int))]⟩,some ⟨1,[.int IntKind.u32 ((0:Int)),.int IntKind.u32 ((274646895:Int)),.int IntKind.u32 ((549293790:Int)),.int IntKind.u32 ((820201905:Int)),.int IntKind.u32 ((1098587580:Int)),.int IntKind.u32 ((1361435347:Int)),.int IntKind.u32 ((1640403810:Int)),.int IntKind.u32 ((1905808397:Int)),.int IntKind.u32 ((2197175160:Int)),.int IntKind.u32 ((2460548119:Int)),.int IntKind.u32 ((2722870694:Int)),.int IntKind.u32 ((2987750089:Int)),.int IntKind.u32 ((3280807620:Int)),.int IntKind.u32 ((3553878443:Int)),.int IntKind.u32 ((3811616794:Int)),.int IntKind.u32 ((4084100981:Int))]⟩]):=by kernel_rfl
theorem zO :ACalls (⟨Try.prog,G,B⟩:A0) 97 [] [] fun v _=>v=.agg tab:=by
 refine call_of_vc (K:=Kc (⟨Try.prog,G,B⟩:A0)) (goodc (mix G B)) (fun h=>by cases h) 1000 (fn:=Try.f97) (c:=C6 Try.f97) (by kernel_rfl) (by kernel_rfl) (by kernel_rfl) (fun h=>by cases h) ?_;show vc (Kc (⟨Try.prog,G,B⟩:A0)) 1000 0 (.code (C6 Try.f97)) (N3 Try.f97 []) [] (N0 (⟨Try.prog,G,B⟩:A0) Try.f97 _);rw [aK9];rfl
def half_sum:Sum1:=fun args _=>match args with
 | []=>some (true,.agg tab,[])
 | _=>none
theorem qB :cR (⟨Try.prog,G,B⟩:A0) 97 half_sum:=by
 intro args H v hs h;unfold half_sum at h;split at h
 ·simp only [zK,yN,true_and] at h;obtain ⟨rfl,rfl⟩:=h;exact iV (C:=(⟨Try.prog,G,B⟩:A0)) ⟨by decide,by decide⟩ ⟨rfl,rfl⟩ zO H
 ·simp at h
theorem aG7 (k off n:Nat) (mb:Bool) (t:List AV) (s i:Int) (Q:Ex→List AV→Hp→Prop):vc (Kn (⟨Try.prog,G,B⟩:A0) noSum noLoop) 100 0 (.code (A2 Try.f84 0)) (fl 35 [0,5,9,10,11] [.int .u32 s,.ptr (.rw 0) 0,.slice mb (.ro k) off n,.int .i64 n,.int .i64 i]) [some ⟨1,t⟩] (lv 35 [0,5,9,10,11] Q)=(
  tst (decide (i<(↑n:Int))) ( chk (decide ((0:Int)≤i)&&decide (i<(↑n:Int))) ( chk (isI IntKind.u8 (G k) (i.toNat+off)) ( nam (A1 (G k) (i.toNat+off)) (fun y1=> nam (Sa IntKind.u32 s (IntKind.u32.wrap y1)) (fun y2=> chk (decide (P0 IntKind.u32 y2 (15:Int)<(16:Int))) ( chk (isI IntKind.u32 t (P0 IntKind.u32 y2 (15:Int)).toNat) ( nam (Sa IntKind.u32 (O0 IntKind.u32 y2 (4:Int)) (A1 t (P0 IntKind.u32 y2 (15:Int)).toNat)) (fun y3=> chk (decide (P0 IntKind.u32 y3 (15:Int)<(16:Int))) ( chk (isI IntKind.u32 t (P0 IntKind.u32 y3 (15:Int)).toNat) ( nam (Sa IntKind.u32 (O0 IntKind.u32 y3 (4:Int)) (A1 t (P0 IntKind.u32 y3 (15:Int)).toNat)) (fun y4=> Q .normal [.int IntKind.u32 y4,.ptr (.rw 0) 0,.slice mb (.ro k) off n,.int IntKind.i64 ((↑n:Int)),.int IntKind.i64 (IntKind.i64.wrap (i+(1:Int)))] [some ⟨1,t⟩]))))))))))) ( Q (.exit 0) [.int IntKind.u32 s,.ptr (.rw 0) 0,.slice mb (.ro k) off n,.int IntKind.i64 ((↑n:Int)),.int IntKind.i64 i] [some ⟨1,t⟩])):=by kernel_rfl
theorem aG5 (s:Int) (mb:Bool) (k off n:Nat) (m i:Int) (t:List AV) (hc:(decide (0≤s)&&(decide (s<4294967296)&&(decide (m=n)&&(decide (i=0)&&(decide (n≤9223372036854775807)&&(Je .u8 (G k) off n&&Nh t))))))=true):AWp (⟨Try.prog,G,B⟩:A0) 0 (.loop (A2 Try.f84 0)) (fl 35 [0,5,9,10,11] [.int .u32 s,.ptr (.rw 0) 0,.slice mb (.ro k) off n,.int .i64 m,.int .i64 i]) [some ⟨1,t⟩] (lv 35 [0,5,9,10,11] fun e' vs'' H''=>e'=.exit 0∧wk [.int .u32 (u (U7 (Z7 s) (S2 (G k) off n))),.undef,.undef,.undef,.undef] vs''∧H''=[some ⟨1,t⟩]):=by
 simp only [zN,xE] at hc;obtain ⟨h1,h2,rfl,rfl,hn,hok,ht⟩:=hc
 refine Bf (fun j vs H=>∃ i:Nat,i≤n∧j=n - i∧vs=[.int .u32 (u (U7 (Z7 s) (S2 (G k) off i))),.ptr (.rw 0) 0,.slice mb (.ro k) off n,.int .i64 n,.int .i64 i]∧H=[some ⟨1,t⟩]) n
  ⟨0,by omega,rfl,by rw [zH,U7,tP ⟨h1,h2⟩];rfl,rfl⟩ ?_
 rintro j vs H ⟨i,hi,rfl,rfl,rfl⟩;refine wpn (mix G B) (Yz _) (iH _ _) 100 ?_;rw [aG7];simp only [qP,Xp,Qd,zN,xE,decide_eq_false_iff_not];refine ⟨fun h=>⟨⟨by omega,h⟩,?_⟩,fun h=>?_⟩
 rotate_left
 ·have:i=n:=by omega
  subst this;exact ⟨trivial,by simp [wk],trivial⟩
 have hi':i<n:=by omega
 have e1:(i:Int).toNat+off=off+i:=by omega
 rw [e1];refine ⟨Wr hok hi',?_⟩;generalize hx:U7 (Z7 s) (S2 (G k) off i)=x;have ey:Sa .u32 (u x) (IntKind.u32.wrap (A1 (G k) (off+i)))=u (x ^^^ b8 (A1 (G k) (off+i))):=by rw [zC,Ih,aC8];rfl
 rw [ey];generalize hz:x ^^^ b8 (A1 (G k) (off+i))=z;have ea:∀ z:Wd,P0 .u32 (u z) 15=u (z &&& 15#32):=fun z=>by rw [kAnd_w,Ih];rfl
 have en:∀ z:Wd,(u (z &&& 15#32)).toNat=(z &&& 15#32).toNat:=fun z=>rfl;have el:∀ z:Wd,0≤u (z &&& 15#32)∧u (z &&& 15#32)<16:=fun z=>by have:=kN z;unfold u;omega
 have e4:∀ z:Wd,Sa .u32 (O0 .u32 (u z) 4) (A1 t (u (z &&& 15#32)).toNat)=u (Cl 4 z):=fun z=>by
  rw [en,aS9 ht,show (4:Int)=((4:Nat):Int) from rfl,kShr_u z 4 (by omega),zC,Ih,Ih,←stn4]
 simp only [ea,e4];refine ⟨(el z).2,wW ht z,(el _).2,wW ht _,n - (i+1),by omega,.inl ⟨i+1,by omega,rfl,?_,trivial⟩⟩;rw [B6 (by omega),←qV,zI,Kf,hx];simp only [U7,hz];rfl
def uE (G:Nat→List AV) (B:Nat) (vs:List AV) (H:Hp):Option (Bool×Ex×List AV×Hp):=match vs,H with
 | [.int .u32 s,.ptr (.rw 0) 0,.slice mb (.ro k) off n,.int .i64 m,.int .i64 i],[some ⟨1,t⟩]=>some (decide (0≤s)&&(decide (s<4294967296)&&(decide (m=n)&&(decide (i=0)&&(decide (n≤9223372036854775807)&&(Je .u8 (G k) off n&&Nh t))))),.exit 0,[.int .u32 (u (U7 (Z7 s) (S2 (G k) off n))),.undef,.undef,.undef,.undef],[some ⟨1,t⟩])
 | _,_=>none
theorem aG8 (vs:List AV) (H:Hp) (e:Ex) (vs':List AV) (H':Hp) (h:uE G B vs H=some (true,e,vs',H')) :
  AWp (⟨Try.prog,G,B⟩:A0) 0 (.loop (A2 Try.f84 0)) (fl 35 [0,5,9,10,11] vs) H (lv 35 [0,5,9,10,11] fun e' vs'' H''=>e'=e∧wk vs' vs''∧H''=H'):=by
 unfold uE at h;split at h
 ·rename_i s mb k off n m i t;simp only [zK,yN] at h;obtain ⟨hc,rfl,rfl,rfl⟩:=h;exact aG5 G B s mb k off n m i t hc
 ·simp at h
def uG (G:Nat→List AV) (B:Nat):Loops:=fun _ F H=>nC 35 [0,5,9,10,11] (uE G B) F H
theorem run_ok :cU (⟨Try.prog,G,B⟩:A0) (A2 Try.f84 0) (uG G B):=ls_ok (aG8 G B)
theorem aU8 (k off n:Nat) (mb:Bool) (s:Int) (Q:AV→Hp→Prop):vc (Kn (⟨Try.prog,G,B⟩:A0) (sums [(97,half_sum)]) (uG G B)) 100 0 (.code (C6 Try.f84)) (N3 Try.f84 [.int .u32 s,.slice mb (.ro k) off n]) [] (N0 (⟨Try.prog,G,B⟩:A0) Try.f84 Q)=(
  nam ((0:Int)) (fun y1=> chk (decide ((0:Int)≤s)&&(decide (s<(4294967296:Int))&&(decide ((↑n:Int)=(↑n:Int))&&(decide (n≤(9223372036854775807:Nat))&&(Je IntKind.u8 (G k) off n&&Nh [AV.int IntKind.u32 (0:Int),AV.int IntKind.u32 (274646895:Int),AV.int IntKind.u32 (549293790:Int),AV.int IntKind.u32 (820201905:Int),AV.int IntKind.u32 (1098587580:Int),AV.int IntKind.u32 (1361435347:Int),AV.int IntKind.u32 (1640403810:Int),AV.int IntKind.u32 (1905808397:Int),AV.int IntKind.u32 (2197175160:Int),AV.int IntKind.u32 (2460548119:Int),AV.int IntKind.u32 (2722870694:Int),AV.int IntKind.u32 (2987750089:Int),AV.int IntKind.u32 (3280807620:Int),AV.int IntKind.u32 (3553878443:Int),AV.int IntKind.u32 (3811616794:Int),AV.int IntKind.u32 (4084100981:Int)]))))) ( nam (u (U7 (Z7 s) (S2 (G k) off n))) (fun y2=> Q (.int IntKind.u32 y2) [some ⟨1,[.int IntKind.u32 ((0:Int)),.int IntKind.u32 ((274646895:Int)),.int IntKind.u32 ((549293790:Int)),.int IntKind.u32 ((820201905:Int)),.int IntKind.u32 ((1098587580:Int)),.int IntKind.u32 ((1361435347:Int)),.int IntKind.u32 ((1640403810:Int)),.int IntKind.u32 ((1905808397:Int)),.int IntKind.u32 ((2197175160:Int)),.int IntKind.u32 ((2460548119:Int)),.int IntKind.u32 ((2722870694:Int)),.int IntKind.u32 ((2987750089:Int)),.int IntKind.u32 ((3280807620:Int)),.int IntKind.u32 ((3553878443:Int)),.int IntKind.u32 ((3811616794:Int)),.int IntKind.u32 ((4084100981:Int))]⟩])))):=by kernel_rfl
theorem aG6 (k off n:Nat) (mb:Bool) (x:Wd) (hn:n≤9223372036854775807) (hok:Je .u8 (G k) off n=true):ACalls (⟨Try.prog,G,B⟩:A0) 84 [.int .u32 (u x),.slice mb (.ro k) off n] [] fun v _=>v=.int .u32 (u (U7 x (S2 (G k) off n))):=by
 refine calln (mix G B) (gR (qB G B) (lL _)) (loop:=uG G B) (fn:=Try.f84) (c:=C6 Try.f84) (by kernel_rfl) (by kernel_rfl) (by kernel_rfl) (.cast (.cons (run_ok G B) .nil) (by kernel_rfl)) 100 ?_;rw [aU8]
 have:=Kw x
 simp only [Qd,Xp,zN,xE,Ih];exact ⟨⟨this.1,this.2,trivial,hn,hok,tab_ok⟩,trivial⟩
def dT (C:A0):Sum1:=fun args H=>match args with
 | [.int .u32 s,.slice _ r off n]=>match H4 C H r with
  | some cs=>some (decide (0≤s)&&(decide (s<4294967296)&&(decide (n≤9223372036854775807)&&Je .u8 cs off n)),.int .u32 (u (U7 (Z7 s) (S2 cs off n))),[])
  | none=>none
 | _=>none
theorem uD :cR (⟨Try.prog,G,B⟩:A0) 84 (dT (⟨Try.prog,G,B⟩:A0)):=by
 intro args H v hs h;unfold dT at h;split at h
 ·rename_i s mb r off n;split at h
  ·rename_i cs hcs;simp only [zK,yN,zN,xE] at h;obtain ⟨⟨h1,h2,h3,h4⟩,rfl,rfl⟩:=h;have key:=fun B'=>aG6 (G1 ((cs.drop off).take n)) B' 0 0 n mb (Z7 s) h3 (aI7 h4);rw [tP ⟨h1,h2⟩] at key;refine dV (C:=(⟨Try.prog,G,B⟩:A0)) (args0:=[.int .u32 s,.slice mb (.ro 0) 0 n]) (sees1 hcs off n (aI8 h4)) (R:=fun v=>v=.int .u32 (u (U7 (Z7 s) (S2 cs off n)))) (fun B'=>?_) (by simp [K7,H7]) (by simp [sbs,sb,sig1]) (fun v hv=>by subst hv;simp [A8,U5])
   have:=key B'
   simp only [G1,zJ] at this;exact this
  ·simp at h
 ·simp at h
end
section
variable (G:Nat→List AV) (B:Nat)
theorem aT5 (k off n:Nat) (mb:Bool) (s i:Int) (Q:Ex→List AV→Hp→Prop):vc (Kn (⟨Try.prog,G,B⟩:A0) (sums [(84,dT (⟨Try.prog,G,B⟩:A0))]) noLoop) 100 0 (.code (A2 Try.f57 0)) (fl 18 [3,6,7,8] [.int .u32 s,.slice mb (.ro k) off n,.int .i64 n,.int .i64 i]) [] (lv 18 [3,6,7,8] Q)=(
  tst (decide (i<(↑n:Int))) ( chk (decide ((0:Int)≤i)&&decide (i<(↑n:Int))) ( chk (Fd (G k) (i.toNat+off)) ( nam s (fun y1=> chk (decide ((0:Int)≤y1)&&(decide (y1<(4294967296:Int))&&(decide (C7 (G k) (i.toNat+off)≤(9223372036854775807:Nat))&&Je IntKind.u8 (G (C8 (G k) (i.toNat+off))) (E9 (G k) (i.toNat+off)) (C7 (G k) (i.toNat+off))))) ( nam (u (U7 (Z7 y1) (S2 (G (C8 (G k) (i.toNat+off))) (E9 (G k) (i.toNat+off)) (C7 (G k) (i.toNat+off))))) (fun y2=> Q .normal [.int IntKind.u32 y2,.slice mb (.ro k) off n,.int IntKind.i64 ((↑n:Int)),.int IntKind.i64 (IntKind.i64.wrap (i+(1:Int)))] [])))))) ( Q (.exit 0) [.int IntKind.u32 s,.slice mb (.ro k) off n,.int IntKind.i64 ((↑n:Int)),.int IntKind.i64 i] [])):=by kernel_rfl
def piece (G:Nat→List AV) (k j:Nat):List Int:=S2 (G (C8 (G k) j)) (E9 (G k) j) (C7 (G k) j)
def Qb (G:Nat→List AV) (k j:Nat):Bool:=Fd (G k) j&&(decide (C7 (G k) j≤9223372036854775807)&&Je .u8 (G (C8 (G k) j)) (E9 (G k) j) (C7 (G k) j))
def Eg (G:Nat→List AV) (k off n:Nat):List Int:=((List.range n).map fun j=>piece G k (off+j)).flatten
theorem pU (k off n:Nat):Eg G k off (n+1)=Eg G k off n++piece G k (off+n):=by simp [Eg,List.range_succ]
theorem aT3 (s:Int) (mb:Bool) (k off n:Nat) (m i:Int) (hc:(decide (0≤s)&&(decide (s<4294967296)&&(decide (i=0)&&(decide (m=n)&&(decide (n≤9223372036854775807)&&(List.range n).all (fun j=>Qb G k (off+j)))))))=true):AWp (⟨Try.prog,G,B⟩:A0) 0 (.loop (A2 Try.f57 0)) (fl 18 [3,6,7,8] [.int .u32 s,.slice mb (.ro k) off n,.int .i64 m,.int .i64 i]) [] (lv 18 [3,6,7,8] fun e' vs'' H''=>e'=.exit 0∧wk [.int .u32 (u (U7 (Z7 s) (Eg G k off n))),.undef,.undef,.undef] vs''∧H''=[]):=by
 simp only [zN,xE,xM,List.mem_range] at hc;obtain ⟨h1,h2,rfl,rfl,hn,hok⟩:=hc
 refine Bf (fun j vs H=>∃ i:Nat,i≤n∧j=n - i∧vs=[.int .u32 (u (U7 (Z7 s) (Eg G k off i))),.slice mb (.ro k) off n,.int .i64 n,.int .i64 i]∧H=[]) n
  ⟨0,by omega,rfl,by rw [show Eg G k off 0=[] from rfl,U7,tP ⟨h1,h2⟩];rfl,rfl⟩ ?_
 rintro j vs H ⟨i,hi,rfl,rfl,rfl⟩;refine wpn (mix G B) (gR (uD G B) (lL _)) (iH _ _) 100 ?_;rw [aT5];simp only [qP,Xp,Qd,zN,xE,decide_eq_false_iff_not,Ih];refine ⟨fun h=>⟨⟨by omega,h⟩,?_⟩,fun h=>?_⟩
 ·have hi':i<n:=by omega
  have e1:(i:Int).toNat+off=off+i:=by omega
  have ho:=hok i hi';simp only [Qb,zN,xE] at ho;rw [e1];refine ⟨ho.1,⟨(Kw _).1,(Kw _).2,ho.2.1,ho.2.2⟩,n - (i+1),by omega,.inl ⟨i+1,by omega,rfl,?_,by trivial⟩⟩;rw [B6 (by omega),pU,Kf];rfl
 ·have:i=n:=by omega
  subst this;exact ⟨trivial,by simp [wk],trivial⟩
def su_S (G:Nat→List AV) (B:Nat) (vs:List AV) (H:Hp):Option (Bool×Ex×List AV×Hp):=match vs,H with
 | [.int .u32 s,.slice mb (.ro k) off n,.int .i64 m,.int .i64 i],[]=>some (decide (0≤s)&&(decide (s<4294967296)&&(decide (i=0)&&(decide (m=n)&&(decide (n≤9223372036854775807)&&(List.range n).all (fun j=>Qb G k (off+j)))))),.exit 0,[.int .u32 (u (U7 (Z7 s) (Eg G k off n))),.undef,.undef,.undef],[])
 | _,_=>none
theorem aT6 (vs:List AV) (H:Hp) (e:Ex) (vs':List AV) (H':Hp) (h:su_S G B vs H=some (true,e,vs',H')) :
  AWp (⟨Try.prog,G,B⟩:A0) 0 (.loop (A2 Try.f57 0)) (fl 18 [3,6,7,8] vs) H (lv 18 [3,6,7,8] fun e' vs'' H''=>e'=e∧wk vs' vs''∧H''=H'):=by
 unfold su_S at h;split at h
 ·rename_i s mb k off n m i;simp only [zK,yN] at h;obtain ⟨hc,rfl,rfl,rfl⟩:=h;exact aT3 G B s mb k off n m i hc
 ·simp at h
def su_L (G:Nat→List AV) (B:Nat):Loops:=fun _ F H=>nC 18 [3,6,7,8] (su_S G B) F H
theorem su_ok :cU (⟨Try.prog,G,B⟩:A0) (A2 Try.f57 0) (su_L G B):=ls_ok (aT6 G B)
theorem su_run (k off n:Nat) (mb:Bool) (Q:AV→Hp→Prop):vc (Kn (⟨Try.prog,G,B⟩:A0) noSum (su_L G B)) 100 0 (.code (C6 Try.f57)) (N3 Try.f57 [.slice mb (.ro k) off n]) [] (N0 (⟨Try.prog,G,B⟩:A0) Try.f57 Q)=(
  nam ((0:Int)) (fun y1=> nam ((4294967295:Int)) (fun y2=> chk (decide ((0:Int)≤y2)&&(decide (y2<(4294967296:Int))&&(decide ((↑n:Int)=(↑n:Int))&&(decide (n≤(9223372036854775807:Nat))&&(List.range n).all fun j=>Qb G k (off+j))))) ( nam (Ze IntKind.u32 (u (U7 (Z7 y2) (Eg G k off n)))) (fun y3=> Q (.int IntKind.u32 y3) []))))):=by kernel_rfl
theorem aT4 (k off n:Nat) (mb:Bool) (hn:n≤9223372036854775807) (hok:∀ j,j<n→Qb G k (off+j)=true):ACalls (⟨Try.prog,G,B⟩:A0) 57 [.slice mb (.ro k) off n] [] fun v _=>v=.int .u32 (u (sum (Eg G k off n))):=by
 refine calln (mix G B) (Yz _) (loop:=su_L G B) (fn:=Try.f57) (c:=C6 Try.f57) (by kernel_rfl) (by kernel_rfl) (by kernel_rfl) (.cast (.cons (su_ok G B) .nil) (by kernel_rfl)) 100 ?_;rw [su_run];simp only [Qd,Xp,zN,xE,kNot_u,Ih,xM,List.mem_range];exact ⟨⟨by decide,by decide,trivial,hn,hok⟩,by trivial⟩
end
end Go.Am
