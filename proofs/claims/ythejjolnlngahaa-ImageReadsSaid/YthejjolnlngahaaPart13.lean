/-
  Images as files: a section's and a place's form. Images as files: the lists of sections and of places.
-/
import Derived.Test.YthejjolnlngahaaPart12
import Derived.Test.YthejjolnlngahaaBase6
import Derived.Test.YthejjolnlngahaaPart7
import Derived.Test.YthejjolnlngahaaBase3
namespace Go.Am
open Go.Proofs
open List renaming length → wW
set_option maxRecDepth 100000
section
variable (G:Nat→List AV) (B:Nat)
theorem Cv :P8 (za G B) progP:=.cons (Wr (num9 G B)) (.cons (Wr (num12 G B)) (.cons (iU (bytes8 G B)) (.cons (iU (bD6 G B)) (.cons (nW (flag15 G B)) (.cons (nW (flag16 G B)) (.cons (aN6 G B) .nil))))))
def fN (x:Int):List AV:=A9 (Ix x.toNat)
def T5 (a r:Int) (d:List AV) (y:Int):List AV:=((fN a++fN r)++(fN (d.length:Int)++d))++fN y
def Ae (a:Int) (h:Bool):List AV:=fN a++[.int .u8 (Z1 [.bool h])]
def X2 (x:Int):Bool:=decide (0≤x)&&decide (x≤9223372036854775807)
theorem N5 {x:Int}:X2 x=true↔0≤x∧x≤9223372036854775807:=by simp [X2]
theorem Gh {x:Int} (h:X2 x=true):IntKind.wrap .u64 x=x:=Bj (by have:=N5.1 h;omega)
theorem Cg {x:Int} (h:X2 x=true):inU64 [.int .u64 x]=true:=by
 have:=N5.1 h
 simp only [inU64,zO,qC];omega
theorem gF:∀ (a:List UInt8),u8s (A9 a)=true
 | []=>rfl
 | x::a=>by
  have:=gF a
  simp only [u8s,A9,List.map_cons,List.all_cons,Om,Bool.true_and] at this ⊢;exact this
theorem N2 (x:Int):u8s (fN x)=true:=gF _
theorem N6 (x:Int):(fN x).length≤10:=by unfold fN;rw [K9];exact iE _
theorem Ly {a r y:Int} {d:List AV} (h:u8s d=true):u8s (T5 a r d y)=true:=by simp only [T5,C9,N2,h,Bool.and_self]
theorem gN {a r y:Int} {d:List AV}:(T5 a r d y).length≤d.length+40:=by
 have h1:=N6 a;have h2:=N6 r;have h3:=N6 (d.length:Int);have h4:=N6 y;simp only [T5,zA6];omega
theorem Mi {a:Int} {h:Bool}:u8s (Ae a h)=true:=by simp only [Ae,C9,N2,Bool.true_and];rfl
theorem gZ {a:Int} {h:Bool}:(Ae a h).length≤11:=by
 have:=N6 a
 simp only [Ae,zA6,List.length_cons,List.length_nil];omega
theorem wH {f:FuncId} {args:List AV} {C:A1} {mb:Bool} {q m:Nat} {cs:List AV} (hc:u8s cs=true) (h:ACalls C f args [] fun v' H'=>v'=.slice mb (.rw q) 0 m∧H'[q]?=some (some ⟨1,cs⟩)) :
  ACalls C f args [] fun v' H'=>v'=.slice mb (.rw 0) 0 m∧H'=[some ⟨1,cs⟩]:=by
 refine h.view fun v H' ⟨e1,e2⟩=>⟨_,_,⟨rfl,rfl⟩,?_⟩;have hl:=(zP.1 e2).1;rw [e1];exact C5.renM (θ:=[q]) (by simp) (fun i hi=>absurd hi (by simp)) (by simp) ⟨⟨B7 hc,by rw [B4 _ _ (B7 (k:=0) hc)];exact e2⟩,trivial⟩ (by simp [A6,B0]) (by simp [rens,C2,wk])
theorem aX5 (a r y:Int) (k o l:Nat) (ha:X2 a=true) (hr:X2 r=true) (hy:X2 y=true) (hl:l≤1099511627000) (ho:o+l≤(G k).length) (hu:u8s (G k)=true):ACalls (za G B) 52 [.agg [.int .i64 a,.int .i64 r,.slice true (.ro k) o l,.int .i64 y]] [] fun v H=>v=.slice false (.rw 0) 0 (T5 a r (A0 (G k) o l) y).length∧H=[some ⟨1,T5 a r (A0 (G k) o l) y⟩]:=by
 have hd:(A0 (G k) o l).length=l:=by simp only [A0,List.length_take,List.length_drop];omega
 have hud:u8s (A0 (G k) o l)=true:=by
  unfold u8s at hu ⊢;rw [qD] at hu ⊢;intro v hv;exact hu v (List.mem_of_mem_drop (List.mem_of_mem_take hv))
 have e:=Ly (a:=a) (r:=r) (y:=y) hud;refine wH (q:=6) e ?_
 have key:=C8 (C:=(za G B)) (f:=52) (fn:=Try.f52) (K:=Dc Try.prog [] progP [] 0) (R:=fun v H=>v=.slice false (.rw 6) 0 (T5 a r (A0 (G k) o l) y).length∧∃ H0,H=H0++[some ⟨1,T5 a r (A0 (G k) o l) y⟩]∧H0.length=6) (by rw [show loopsOf (C3 Try.f52)=[] by kernel_rfl];exact C7 (mix G B) (by kernel_rfl) (Cv G B) .nil) (by kernel_rfl) (by kernel_rfl) (by kernel_rfl) (fuel:=300) (n0:=20) (keep:=8) (args:=[.agg (.of [.int .i64 (.var 11 a),.int .i64 (.var 12 r),.slice true (.ro (.var 13 k)) (.var 14 o) (.var 15 l),.int .i64 (.var 16 y)])]) (H:=[]) (by
  rw [t52,Gh ha,Gh hr,Gh hy];have h1:=N6 a;have h2:=N6 r;have h3:=N6 (l:Int);have h4:=N6 y;have eq:∀ x:Int,A9 (A4 [.int .u64 x])=fN x:=fun x=>rfl;have el:∀ x:Int,(A4 [.int .u64 x]).length=(fN x).length:=fun x=>(K9 _).symm;simp only [eq,el];have e5:((fN a++fN r)++(fN (l:Int)++A0 (G k) o l))++fN y=T5 a r (A0 (G k) o l) y:=by unfold T5;rw [hd]
  rw [e5];refine ⟨Cg ha,Cg hr,A8.2 (by omega),A8.2 ho,hu,hud,Cg hy,zA9 _,zA9 _,?_,zA9 _,N2 _,N2 _,?_,N2 _,A8.2 (by omega),rfl,[_,_,_,_,_,_],rfl,rfl⟩
  ·rw [zA6,hd];exact zA9 _
  ·rw [C9,N2,hud];rfl)
 refine key.monoK fun v H ⟨h1,H0,h2,h3⟩=>⟨h1,?_⟩;have h4:(H.take 8)[6]?=some (some ⟨1,T5 a r (A0 (G k) o l) y⟩):=by rw [h2,qP (by omega),h3];rfl
 rwa [zA4,if_pos (by omega)] at h4
theorem pl_lay (a:Int) (h:Bool) (ha:X2 a=true):ACalls (za G B) 54 [.agg [.int .i64 a,.bool h]] [] fun v H=>v=.slice false (.rw 0) 0 (Ae a h).length∧H=[some ⟨1,Ae a h⟩]:=by
 refine wH (q:=4) Mi ?_
 have key:=C8 (C:=(za G B)) (f:=54) (fn:=Try.f54) (K:=Dc Try.prog [] progP [] 0) (R:=fun v H=>v=.slice false (.rw 4) 0 (Ae a h).length∧∃ H0,H=H0++[some ⟨1,Ae a h⟩]∧H0.length=4) (by rw [show loopsOf (C3 Try.f54)=[] by kernel_rfl];exact C7 (mix G B) (by kernel_rfl) (Cv G B) .nil) (by kernel_rfl) (by kernel_rfl) (by kernel_rfl) (fuel:=300) (n0:=20) (keep:=6) (args:=[.agg (.of [.int .i64 (.var 11 a),.bool (.var 12 h)])]) (H:=[]) (by
  rw [t54,Gh ha];have h1:=N6 a;have eq:∀ x:Int,A9 (A4 [.int .u64 x])=fN x:=fun x=>rfl;have el:∀ x:Int,(A4 [.int .u64 x]).length=(fN x).length:=fun x=>(K9 _).symm;simp only [eq,el]
  exact ⟨Cg ha,zA9 _,rfl,N2 _,rfl,A8.2 (by omega),rfl,[_,_,_,_],rfl,rfl⟩)
 refine key.monoK fun v H ⟨h1,H0,h2,h3⟩=>⟨h1,?_⟩;have h4:(H.take 6)[4]?=some (some ⟨1,Ae a h⟩):=by rw [h2,qP (by omega),h3];rfl
 rwa [zA4,if_pos (by omega)] at h4
def lM (G:Nat→List AV):List AV→Bool:=fun xs=>match xs with
 | [.int _ a,.int _ r,.slice _ (.ro k) o l,.int _ y]=>X2 a&&(X2 r&&(X2 y&&(leB l 1099511627000&&(leB (o+l) (G k).length&&u8s (G k)))))
 | _=>false
def W7 (G:Nat→List AV):List AV→List AV:=fun xs=>match xs with
 | [.int _ a,.int _ r,.slice _ (.ro k) o l,.int _ y]=>T5 a r (A0 (G k) o l) y
 | _=>[]
def uP:List AV→Bool:=fun xs=>match xs with
 | [.int _ a,.bool _]=>X2 a
 | _=>false
def Eu:List AV→List AV:=fun xs=>match xs with
 | [.int _ a,.bool h]=>Ae a h
 | _=>[]
def vC (G:Nat→List AV):DSum:=fun xs H=>match xs with
 | [.agg (.of [.int .i64 a,.int .i64 r,.slice m (.ro k) o l,.int .i64 y])]=>some (.chk (.uf 2501 (lM G) [.int .i64 a,.int .i64 r,.slice m (.ro k) o l,.int .i64 y]) (.one (.slice false (.rw H.length) (.lit 0) (.len (.uf 2502 (W7 G) [.int .i64 a,.int .i64 r,.slice m (.ro k) o l,.int .i64 y]))) [.new ⟨1,.uf 2502 (W7 G) [.int .i64 a,.int .i64 r,.slice m (.ro k) o l,.int .i64 y]⟩]))
 | _=>none
theorem aN2 :DSumOk (za G B) 52 (vC G):=by
 intro xs H o ho;unfold vC at ho;split at ho
 ·rename_i a r m k off l y;simp only [zN] at ho;subst ho;intro hb;simp only [vB,vVs,vV,vR,lM,zO] at hb;obtain ⟨h1,h2,h3,h4,h5,h6⟩:=hb;have key:=aX5 G B (vI G a) (vI G r) (vI G y) (vN G k) (vN G off) (vN G l) h1 h2 h3 (A8.1 h4) (A8.1 h5) h6
  have u:u8s (A0 (G (vN G k)) (vN G off) (vN G l))=true:=by
   unfold u8s at h6 ⊢;rw [qD] at h6 ⊢;intro v hv;exact h6 v (List.mem_of_mem_drop (List.mem_of_mem_take hv))
  have key2:ACalls (za G B) 52 [.agg [.int .i64 (vI G a),.int .i64 (vI G r),.slice m (.ro (vN G k)) (vN G off) (vN G l),.int .i64 (vI G y)]] [] fun v H=>v=.slice false (.rw 0) 0 (T5 (vI G a) (vI G r) (A0 (G (vN G k)) (vN G off) (vN G l)) (vI G y)).length∧H=[some ⟨1,T5 (vI G a) (vI G r) (A0 (G (vN G k)) (vN G off) (vN G l)) (vI G y)⟩]:=key.weaken fun ρ vs hv=>by
   simp only [VRs,VR] at hv ⊢;obtain ⟨v,vs',r1,⟨us,r2,⟨x1,q1,r3,r4,x2,q2,r5,r6,x3,q3,r7,r8,r9⟩⟩,r10⟩:=hv;exact ⟨v,vs',r1,⟨us,r2,⟨x1,q1,r3,r4,x2,q2,r5,r6,x3,q3,r7,(by have:VR ρ (.slice true (.ro (vN G k)) (vN G off) (vN G l)) x3:=Dj (mb:=m) (by simpa only [VR] using r8);simpa only [VR] using this),r9⟩⟩,r10⟩
  refine E1.new0 (C:=(za G B)) (args0:=[.agg [.int .i64 (vI G a),.int .i64 (vI G r),.slice m (.ro (vN G k)) (vN G off) (vN G l),.int .i64 (vI G y)]]) (v0:=.slice false (.rw 0) 0 (T5 (vI G a) (vI G r) (A0 (G (vN G k)) (vN G off) (vN G l)) (vI G y)).length) ?_ ?_ (by simp [A6,B0]) (by simp only [vVs,vV,vR,vL]) (by simp [B0]) ?_
  ·simp only [C6,vL,vVs,vV,vR,W7];exact key2
  ·simp only [vL,vVs,vV,vR,W7];exact B7 (Ly u)
  ·simp [vV,vR,vN,vL,vVs,C2,W7]
 ·simp at ho
def layPS:DSum:=fun xs H=>match xs with
 | [.agg (.of [.int .i64 a,.bool h])]=>some (.chk (.uf 2503 uP [.int .i64 a,.bool h]) (.one (.slice false (.rw H.length) (.lit 0) (.len (.uf 2504 Eu [.int .i64 a,.bool h]))) [.new ⟨1,.uf 2504 Eu [.int .i64 a,.bool h]⟩]))
 | _=>none
theorem aN3 :DSumOk (za G B) 54 layPS:=by
 intro xs H o ho;unfold layPS at ho;split at ho
 ·rename_i a h;simp only [zN] at ho;subst ho;intro hb;simp only [vB,vVs,vV,uP] at hb;refine E1.new0 (C:=(za G B)) (args0:=[.agg [.int .i64 (vI G a),.bool (vB G h)]]) (v0:=.slice false (.rw 0) 0 (Ae (vI G a) (vB G h)).length) ?_ ?_ (by simp [A6,B0]) (by simp only [vVs,vV,vL]) (by simp [B0]) ?_
  ·simp only [C6,vL,vVs,vV,Eu];exact pl_lay G B _ _ hb
  ·simp only [vL,vVs,vV,Eu];exact B7 Mi
  ·simp [vV,vR,vN,vL,vVs,C2,Eu]
 ·simp at ho
def Kq (G:Nat→List AV):List (Nat×DSum):=(52,vC G)::(54,layPS)::progP
theorem Rc :P8 (za G B) (Kq G):=.cons (aN2 G B) (.cons (aN3 G B) (Cv G B))
theorem pt_b (ks n k:Nat) (cs:List AV) (Q:Ex→List AV→Hp→Prop) (R:AV→Hp→Prop):vT G Q R (H4 (Dc Try.prog [] (Kq G) [] 0) 300 20 0 (A5 Try.f51 0) 28 [1,6,15,16,17] [.func 52 [],.slice false (.rw 0) (.lit 0) (.len (.var 21 cs)),.slice true (.ro (.var 24 ks)) (.lit 0) (.var 3 n),.int .i64 (.ofN (.var 3 n)),.int .i64 (.ofN (.var 8 k))] [some ⟨1,.var 21 cs⟩])=(
  (decide (((k:Int):Int)<(n:Int))=true→decide ((0:Int)≤(k:Int))=true∧decide (((k:Int):Int)<(n:Int))=true∧G6 (G ks) (k*4) [.int .i64,.int .i64,.sl,.int .i64]=true∧(lM G) [.int .i64 (A2 (G ks) (k*4)),.int .i64 (A2 (G ks) (k*4+1)),.slice true (.ro (G0 (G ks) (k*4+2))) (H8 (G ks) (k*4+2)) (D1 (G ks) (k*4+2)),.int .i64 (A2 (G ks) (k*4+3))]=true∧leB (wW ((W7 G) [.int .i64 (A2 (G ks) (k*4)),.int .i64 (A2 (G ks) (k*4+1)),.slice true (.ro (G0 (G ks) (k*4+2))) (H8 (G ks) (k*4+2)) (D1 (G ks) (k*4+2)),.int .i64 (A2 (G ks) (k*4+3))])) (wW ((W7 G) [.int .i64 (A2 (G ks) (k*4)),.int .i64 (A2 (G ks) (k*4+1)),.slice true (.ro (G0 (G ks) (k*4+2))) (H8 (G ks) (k*4+2)) (D1 (G ks) (k*4+2)),.int .i64 (A2 (G ks) (k*4+3))]))=true∧cellsB (A0 ((W7 G) [.int .i64 (A2 (G ks) (k*4)),.int .i64 (A2 (G ks) (k*4+1)),.slice true (.ro (G0 (G ks) (k*4+2))) (H8 (G ks) (k*4+2)) (D1 (G ks) (k*4+2)),.int .i64 (A2 (G ks) (k*4+3))]) 0 (wW ((W7 G) [.int .i64 (A2 (G ks) (k*4)),.int .i64 (A2 (G ks) (k*4+1)),.slice true (.ro (G0 (G ks) (k*4+2))) (H8 (G ks) (k*4+2)) (D1 (G ks) (k*4+2)),.int .i64 (A2 (G ks) (k*4+3))])))=true∧leB (wW cs+wW ((W7 G) [.int .i64 (A2 (G ks) (k*4)),.int .i64 (A2 (G ks) (k*4+1)),.slice true (.ro (G0 (G ks) (k*4+2))) (H8 (G ks) (k*4+2)) (D1 (G ks) (k*4+2)),.int .i64 (A2 (G ks) (k*4+3))])) 140737488355328=true∧Nat.beq (wW cs) (wW cs)=true∧
 Q .normal [.func 52 [],.slice false (.rw 3) 0 (wW cs+wW ((W7 G) [.int .i64 (A2 (G ks) (k*4)),.int .i64 (A2 (G ks) (k*4+1)),.slice true (.ro (G0 (G ks) (k*4+2))) (H8 (G ks) (k*4+2)) (D1 (G ks) (k*4+2)),.int .i64 (A2 (G ks) (k*4+3))])),.slice true (.ro ks) 0 n,.int .i64 ((n:Int)),.int .i64 (IntKind.wrap .i64 ((k:Int)+1))] [none,some ⟨1,([.int .i64 (A2 (G ks) (k*4)),.int .i64 (A2 (G ks) (k*4+1)),.slice true (.ro (G0 (G ks) (k*4+2))) (H8 (G ks) (k*4+2)) (D1 (G ks) (k*4+2)),.int .i64 (A2 (G ks) (k*4+3))]:List AV)⟩,some ⟨1,((W7 G) [.int .i64 (A2 (G ks) (k*4)),.int .i64 (A2 (G ks) (k*4+1)),.slice true (.ro (G0 (G ks) (k*4+2))) (H8 (G ks) (k*4+2)) (D1 (G ks) (k*4+2)),.int .i64 (A2 (G ks) (k*4+3))])⟩,some ⟨1,(cs++(A0 ((W7 G) [.int .i64 (A2 (G ks) (k*4)),.int .i64 (A2 (G ks) (k*4+1)),.slice true (.ro (G0 (G ks) (k*4+2))) (H8 (G ks) (k*4+2)) (D1 (G ks) (k*4+2)),.int .i64 (A2 (G ks) (k*4+3))]) 0 (wW ((W7 G) [.int .i64 (A2 (G ks) (k*4)),.int .i64 (A2 (G ks) (k*4+1)),.slice true (.ro (G0 (G ks) (k*4+2))) (H8 (G ks) (k*4+2)) (D1 (G ks) (k*4+2)),.int .i64 (A2 (G ks) (k*4+3))]))))⟩])∧(decide (((k:Int):Int)<(n:Int))=false→Q (.exit 0) [.func 52 [],.slice false (.rw 0) 0 (wW cs),.slice true (.ro ks) 0 n,.int .i64 ((n:Int)),.int .i64 ((k:Int))] [some ⟨1,cs⟩])):=by kernel_rfl
theorem pt_p (kp m k:Nat) (cs:List AV) (Q:Ex→List AV→Hp→Prop) (R:AV→Hp→Prop):vT G Q R (H4 (Dc Try.prog [] (Kq G) [] 0) 300 20 0 (A5 Try.f53 0) 28 [1,6,15,16,17] [.func 54 [],.slice false (.rw 0) (.lit 0) (.len (.var 21 cs)),.slice true (.ro (.var 25 kp)) (.lit 0) (.var 4 m),.int .i64 (.ofN (.var 4 m)),.int .i64 (.ofN (.var 8 k))] [some ⟨1,.var 21 cs⟩])=(
  (decide (((k:Int):Int)<(m:Int))=true→decide ((0:Int)≤(k:Int))=true∧decide (((k:Int):Int)<(m:Int))=true∧G6 (G kp) (k*2) [.int .i64,.bool]=true∧uP [.int .i64 (A2 (G kp) (k*2)),.bool (G8 (G kp) (k*2+1))]=true∧leB (wW (Eu [.int .i64 (A2 (G kp) (k*2)),.bool (G8 (G kp) (k*2+1))])) (wW (Eu [.int .i64 (A2 (G kp) (k*2)),.bool (G8 (G kp) (k*2+1))]))=true∧cellsB (A0 (Eu [.int .i64 (A2 (G kp) (k*2)),.bool (G8 (G kp) (k*2+1))]) 0 (wW (Eu [.int .i64 (A2 (G kp) (k*2)),.bool (G8 (G kp) (k*2+1))])))=true∧leB (wW cs+wW (Eu [.int .i64 (A2 (G kp) (k*2)),.bool (G8 (G kp) (k*2+1))])) 140737488355328=true∧Nat.beq (wW cs) (wW cs)=true∧Q .normal [.func 54 [],.slice false (.rw 3) 0 (wW cs+wW (Eu [.int .i64 (A2 (G kp) (k*2)),.bool (G8 (G kp) (k*2+1))])),.slice true (.ro kp) 0 m,.int .i64 ((m:Int)),.int .i64 (IntKind.wrap .i64 ((k:Int)+1))] [none,some ⟨1,([.int .i64 (A2 (G kp) (k*2)),.bool (G8 (G kp) (k*2+1))]:List AV)⟩,some ⟨1,(Eu [.int .i64 (A2 (G kp) (k*2)),.bool (G8 (G kp) (k*2+1))])⟩,some ⟨1,(cs++(A0 (Eu [.int .i64 (A2 (G kp) (k*2)),.bool (G8 (G kp) (k*2+1))]) 0 (wW (Eu [.int .i64 (A2 (G kp) (k*2)),.bool (G8 (G kp) (k*2+1))]))))⟩])∧(decide (((k:Int):Int)<(m:Int))=false→Q (.exit 0) [.func 54 [],.slice false (.rw 0) 0 (wW cs),.slice true (.ro kp) 0 m,.int .i64 ((m:Int)),.int .i64 ((k:Int))] [some ⟨1,cs⟩])):=by kernel_rfl
end
section
variable (G:Nat→List AV) (B:Nat)
def Fo (G:Nat→List AV) (cs:List AV) (k:Nat):List AV:=T5 (sA cs k) (sR cs k) (F7 G cs k) (sZ cs k)
def B9 (G:Nat→List AV) (cs:List AV):Nat→List AV
 | 0=>[]
 | k+1=>B9 G cs k++Fo G cs k
def Ay (ps:List AV) (j:Nat):List AV:=Ae (xP ps j) (hP ps j)
def B6 (ps:List AV):Nat→List AV
 | 0=>[]
 | j+1=>B6 ps j++Ay ps j
theorem Ht {G:Nat→List AV} {cs:List AV}:∀ {n:Nat},(∀ j,j<n→u8s (F7 G cs j)=true)→u8s (B9 G cs n)=true
 | 0,_=>rfl
 | n+1,h=>by rw [B9,C9,Ht (n:=n) fun j hj=>h j (by omega),Fo,Ly (h n (by omega))];rfl
theorem Hz {ps:List AV}:∀ {n:Nat},u8s (B6 ps n)=true
 | 0=>rfl
 | n+1=>by rw [B6,C9,Hz (n:=n),Ay,Mi];rfl
theorem Lv {G:Nat→List AV} {cs:List AV}:∀ {n:Nat},(∀ j,j<n→(F7 G cs j).length≤8192)→(B9 G cs n).length≤n*8232
 | 0,_=>by simp [B9]
 | n+1,h=>by
  have h1:=Lv (n:=n) fun j hj=>h j (by omega);have h2:=gN (a:=sA cs n) (r:=sR cs n) (d:=F7 G cs n) (y:=sZ cs n);have h3:=h n (by omega);rw [B9,zA6,Fo];omega
theorem No {ps:List AV}:∀ {n:Nat},(B6 ps n).length≤n*11
 | 0=>by simp [B6]
 | n+1=>by
  have h1:=No (ps:=ps) (n:=n);have h2:=gZ (a:=xP ps n) (h:=hP ps n);rw [B6,zA6,Ay];omega
structure Ed (G:Nat→List AV) (cs:List AV) (n:Nat):Prop where
 le8:n≤8
 ok:P2 cs n=true
 num:∀ j,j<n→X2 (sA cs j)=true∧X2 (sR cs j)=true∧X2 (sZ cs j)=true
 dat:∀ j,j<n→u8s (G (G0 cs (j*4+2)))=true∧H8 cs (j*4+2)+sN cs j≤(G (G0 cs (j*4+2))).length∧sN cs j≤8192
theorem Ed.u8 {G:Nat→List AV} {cs:List AV} {n:Nat} (h:Ed G cs n) {j:Nat} (hj:j<n):u8s (F7 G cs j)=true:=by
 have:=(h.dat j hj).1
 unfold F7 u8s A0 at *;rw [qD] at this ⊢;intro v hv;exact this v (List.mem_of_mem_drop (List.mem_of_mem_take hv))
theorem Ed.len {G:Nat→List AV} {cs:List AV} {n:Nat} (h:Ed G cs n) {j:Nat} (hj:j<n):(F7 G cs j).length=sN cs j:=by
 obtain ⟨_,h2,_⟩:=h.dat j hj;have e:D1 cs (j*4+2)=sN cs j:=rfl;simp only [F7,A0,List.length_take,List.length_drop,e];omega
structure Vv (ps:List AV) (m:Nat):Prop where
 le:m≤512
 ok:Y7 ps m=true
 num:∀ j,j<m→X2 (xP ps j)=true
theorem Dl {G:Nat→List AV} {s:Int} {ks kp n m:Nat} (hb:Ad G ks kp n m) (hw:Z4 G ks kp n m) (hy:K1 s (G ks) n (G kp) m=true):Ed G (G ks) n where
 le8:=(Fw hy).1.1
 ok:=hb.sec
 num j hj:=by
  obtain ⟨h1,h2,h3,h4⟩:=Ie hy j hj;have sb:=Q6.1 h4;refine ⟨N5.2 (by omega),N5.2 (by omega),N5.2 (by omega)⟩
 dat j hj:=by
  obtain ⟨h1,h2,h3,h4⟩:=dat_at hb hw hj;have h5:=(Ie hy j hj).2.2.1;rw [h1];exact ⟨aC6,by rw [h4,sW,h2];omega,h5⟩
theorem aZ5 (ks n:Nat) (A:List AV) (hA:u8s A=true) (hl:A.length≤1000) (h:Ed G (G ks) n):AWp (za G B) 0 (.loop (A5 Try.f51 0)) (fl 28 [1,6,15,16,17] [.func 52 [],.slice false (.rw 0) 0 A.length,.slice true (.ro ks) 0 n,.int .i64 (n:Int),.int .i64 0]) [some ⟨1,A⟩] (lv 28 [1,6,15,16,17] fun e vs H=>e=.exit 0∧wk [.undef,.slice false (.rw 0) 0 (A++B9 G (G ks) n).length,.undef,.undef,.undef] vs∧H=[some ⟨1,A++B9 G (G ks) n⟩]):=by
 have e0:A=A++B9 G (G ks) 0:=by rw [B9,List.append_nil]
 have start:AWp (za G B) 0 (.loop (A5 Try.f51 0)) (fl 28 [1,6,15,16,17] [.func 52 [],.slice false (.rw 0) 0 (A++B9 G (G ks) 0).length,.slice true (.ro ks) 0 n,.int .i64 (n:Int),.int .i64 ((0:Nat):Int)]) [some ⟨1,A++B9 G (G ks) 0⟩] (lv 28 [1,6,15,16,17] fun e vs H=>e=.exit 0∧wk [.undef,.slice false (.rw 0) 0 (A++B9 G (G ks) n).length,.undef,.undef,.undef] vs∧H=[some ⟨1,A++B9 G (G ks) n⟩]):=by
  refine W8 n (fun k=>[.func 52 [],.slice false (.rw 0) 0 (A++B9 G (G ks) k).length,.slice true (.ro ks) 0 n,.int .i64 (n:Int),.int .i64 (k:Int)]) (fun k=>[some ⟨1,A++B9 G (G ks) k⟩]) fun k hk=>?_
  refine D3 (C:=(za G B)) (K:=Dc Try.prog [] (Kq G) [] 0) (by rw [show loopsOf (A5 Try.f51 0)=[] by kernel_rfl];exact C7 (mix G B) (by kernel_rfl) (Rc G B) .nil) (fuel:=300) (n0:=20) (m:=0) (c:=A5 Try.f51 0) (vs:=[.func 52 [],.slice false (.rw 0) (.lit 0) (.len (.var 21 (A++B9 G (G ks) k))),.slice true (.ro (.var 24 ks)) (.lit 0) (.var 3 n),.int .i64 (.ofN (.var 3 n)),.int .i64 (.ofN (.var 8 k))]) (H:=[some ⟨1,.var 21 (A++B9 G (G ks) k)⟩]) (zA8 _) ?_;rw [pt_b];have h8:=h.le8;refine ⟨fun hlt=>?_,fun hge=>?_⟩
  ·have hlt':=zR hlt;have hkn:k<n:=by omega
   obtain ⟨n1,n2,n3⟩:=h.num k hkn;obtain ⟨d1,d2,d3⟩:=h.dat k hkn;have ew:W7 G [.int .i64 (A2 (G ks) (k*4)),.int .i64 (A2 (G ks) (k*4+1)),.slice true (.ro (G0 (G ks) (k*4+2))) (H8 (G ks) (k*4+2)) (D1 (G ks) (k*4+2)),.int .i64 (A2 (G ks) (k*4+3))]=Fo G (G ks) k:=rfl;rw [ew];have uw:u8s (Fo G (G ks) k)=true:=Ly (h.u8 hkn)
   have lw:(Fo G (G ks) k).length≤8232:=by
    have h2:=gN (a:=sA (G ks) k) (r:=sR (G ks) k) (d:=F7 G (G ks) k) (y:=sZ (G ks) k)
    have:=h.len hkn
    unfold Fo;omega
   have us:u8s (B9 G (G ks) k)=true:=Ht fun j hj=>h.u8 (by omega);have ls:(B9 G (G ks) k).length≤k*8232:=Lv fun j hj=>by rw [h.len (by omega)];exact (h.dat j (by omega)).2.2
   have sub:A0 (Fo G (G ks) k) 0 (Fo G (G ks) k).length=Fo G (G ks) k:=by simp [A0]
   rw [sub];have eA:(A++B9 G (G ks) k)++Fo G (G ks) k=A++B9 G (G ks) (k+1):=by rw [B9,List.append_assoc]
   have eL:(A++B9 G (G ks) k).length+(Fo G (G ks) k).length=(A++B9 G (G ks) (k+1)).length:=by rw [←eA];simp only [zA6]
   rw [eA,eL];refine ⟨yI (by omega),hlt,S9 h.ok hkn,?_,A8.2 (zA7 _),F9 uw,A8.2 (by rw [←eL,zA6];omega),zA9 _,hkn,.inr ?_⟩
   ·show (X2 (sA (G ks) k)&&(X2 (sR (G ks) k)&&(X2 (sZ (G ks) k)&&(leB (sN (G ks) k) 1099511627000&&(leB (H8 (G ks) (k*4+2)+sN (G ks) k) (G (G0 (G ks) (k*4+2))).length&&u8s (G (G0 (G ks) (k*4+2))))))))=true;rw [n1,n2,n3,d1,A8.2 d2,A8.2 (show sN (G ks) k≤1099511627000 by omega)];rfl
   ·rw [B5 (by omega)];have f:A6 0 (A++B9 G (G ks) (k+1))=true:=B7 (by rw [C9,hA,B9,C9,us,uw];rfl);exact C5.renM (H:=[some ⟨1,A++B9 G (G ks) (k+1)⟩]) (θ:=[3]) (zA8 _) (fun i hi=>absurd hi (Nat.not_lt_zero i)) (by decide) ⟨⟨G2 (zA8 _) _ f,by rw [B4 [3] _ f];rfl⟩,trivial⟩ rfl ⟨rfl,rfl,rfl,rfl,rfl,trivial⟩
  ·have hge':=sJ hge;obtain rfl:k=n:=by omega
   exact ⟨rfl,by simp [wk],rfl⟩
 rw [←e0] at start;exact start
theorem aZ6 (kp m:Nat) (A:List AV) (hA:u8s A=true) (hl:A.length≤1000) (h:Vv (G kp) m):AWp (za G B) 0 (.loop (A5 Try.f53 0)) (fl 28 [1,6,15,16,17] [.func 54 [],.slice false (.rw 0) 0 A.length,.slice true (.ro kp) 0 m,.int .i64 (m:Int),.int .i64 0]) [some ⟨1,A⟩] (lv 28 [1,6,15,16,17] fun e vs H=>e=.exit 0∧wk [.undef,.slice false (.rw 0) 0 (A++B6 (G kp) m).length,.undef,.undef,.undef] vs∧H=[some ⟨1,A++B6 (G kp) m⟩]):=by
 have e0:A=A++B6 (G kp) 0:=by rw [B6,List.append_nil]
 have start:AWp (za G B) 0 (.loop (A5 Try.f53 0)) (fl 28 [1,6,15,16,17] [.func 54 [],.slice false (.rw 0) 0 (A++B6 (G kp) 0).length,.slice true (.ro kp) 0 m,.int .i64 (m:Int),.int .i64 ((0:Nat):Int)]) [some ⟨1,A++B6 (G kp) 0⟩] (lv 28 [1,6,15,16,17] fun e vs H=>e=.exit 0∧wk [.undef,.slice false (.rw 0) 0 (A++B6 (G kp) m).length,.undef,.undef,.undef] vs∧H=[some ⟨1,A++B6 (G kp) m⟩]):=by
  refine W8 m (fun k=>[.func 54 [],.slice false (.rw 0) 0 (A++B6 (G kp) k).length,.slice true (.ro kp) 0 m,.int .i64 (m:Int),.int .i64 (k:Int)]) (fun k=>[some ⟨1,A++B6 (G kp) k⟩]) fun k hk=>?_
  refine D3 (C:=(za G B)) (K:=Dc Try.prog [] (Kq G) [] 0) (by rw [show loopsOf (A5 Try.f53 0)=[] by kernel_rfl];exact C7 (mix G B) (by kernel_rfl) (Rc G B) .nil) (fuel:=300) (n0:=20) (m:=0) (c:=A5 Try.f53 0) (vs:=[.func 54 [],.slice false (.rw 0) (.lit 0) (.len (.var 21 (A++B6 (G kp) k))),.slice true (.ro (.var 25 kp)) (.lit 0) (.var 4 m),.int .i64 (.ofN (.var 4 m)),.int .i64 (.ofN (.var 8 k))]) (H:=[some ⟨1,.var 21 (A++B6 (G kp) k)⟩]) (zA8 _) ?_;rw [pt_p];have h8:=h.le;refine ⟨fun hlt=>?_,fun hge=>?_⟩
  ·have hlt':=zR hlt;have hkn:k<m:=by omega
   have ew:Eu [.int .i64 (A2 (G kp) (k*2)),.bool (G8 (G kp) (k*2+1))]=Ay (G kp) k:=rfl;rw [ew];have uw:u8s (Ay (G kp) k)=true:=Mi;have lw:(Ay (G kp) k).length≤11:=gZ;have us:u8s (B6 (G kp) k)=true:=Hz;have ls:(B6 (G kp) k).length≤k*11:=No;have sub:A0 (Ay (G kp) k) 0 (Ay (G kp) k).length=Ay (G kp) k:=by simp [A0]
   rw [sub];have eA:(A++B6 (G kp) k)++Ay (G kp) k=A++B6 (G kp) (k+1):=by rw [B6,List.append_assoc]
   have eL:(A++B6 (G kp) k).length+(Ay (G kp) k).length=(A++B6 (G kp) (k+1)).length:=by rw [←eA];simp only [zA6]
   rw [eA,eL];refine ⟨yI (by omega),hlt,(S1 h.ok hkn).1,h.num k hkn,A8.2 (zA7 _),F9 uw,A8.2 (by rw [←eL,zA6];omega),zA9 _,hkn,.inr ?_⟩;rw [B5 (by omega)];have f:A6 0 (A++B6 (G kp) (k+1))=true:=B7 (by rw [C9,hA,B6,C9,us,uw];rfl);exact C5.renM (H:=[some ⟨1,A++B6 (G kp) (k+1)⟩]) (θ:=[3]) (zA8 _) (fun i hi=>absurd hi (Nat.not_lt_zero i)) (by decide) ⟨⟨G2 (zA8 _) _ f,by rw [B4 [3] _ f];rfl⟩,trivial⟩ rfl ⟨rfl,rfl,rfl,rfl,rfl,trivial⟩
  ·have hge':=sJ hge;obtain rfl:k=m:=by omega
   exact ⟨rfl,by simp [wk],rfl⟩
 rw [←e0] at start;exact start
theorem t51 (q1:List AV→Bool) (ks n:Nat) (w:List AV) (Q:Ex→List AV→Hp→Prop) (R:AV→Hp→Prop):vT G Q R (H5 (Dc Try.prog [] (Kq G) [D4 2505 q1 0 28 [1,6,15,16,17] (.one (.exit 0) [.undef,.slice false (.rw 0) (.lit 0) (.len (.var 22 w)),.undef,.undef,.undef] [some ⟨1,.var 22 w⟩])] 0) 300 20 Try.f51 [.slice true (.ro (.var 24 ks)) (.lit 0) (.var 3 n),.func 52 []] [] 1)=(
  inU64 [.int .u64 (IntKind.wrap .u64 ((n:Int)))]=true∧q1 [.agg ([.func 52 [],.slice false (.rw 0) 0 (List.length (A4 [.int .u64 (IntKind.wrap .u64 ((n:Int)))])),.slice true (.ro ks) 0 n,.int .i64 ((n:Int)),.int .i64 0]:List AV),.agg ([.tup [.int .i64 1,.agg (A9 (A4 [.int .u64 (IntKind.wrap .u64 ((n:Int)))]))]]:List AV)]=true∧R (.tup [.slice false (.rw 0) 0 (List.length w),.int .i64 0]) [some ⟨1,w⟩]):=by kernel_rfl
theorem t53 (q2:List AV→Bool) (kp m:Nat) (w:List AV) (Q:Ex→List AV→Hp→Prop) (R:AV→Hp→Prop):vT G Q R (H5 (Dc Try.prog [] (Kq G) [D4 2506 q2 0 28 [1,6,15,16,17] (.one (.exit 0) [.undef,.slice false (.rw 0) (.lit 0) (.len (.var 22 w)),.undef,.undef,.undef] [some ⟨1,.var 22 w⟩])] 0) 300 20 Try.f53 [.slice true (.ro (.var 25 kp)) (.lit 0) (.var 4 m),.func 54 []] [] 1)=(
  inU64 [.int .u64 (IntKind.wrap .u64 ((m:Int)))]=true∧q2 [.agg ([.func 54 [],.slice false (.rw 0) 0 (List.length (A4 [.int .u64 (IntKind.wrap .u64 ((m:Int)))])),.slice true (.ro kp) 0 m,.int .i64 ((m:Int)),.int .i64 0]:List AV),.agg ([.tup [.int .i64 1,.agg (A9 (A4 [.int .u64 (IntKind.wrap .u64 ((m:Int)))]))]]:List AV)]=true∧R (.tup [.slice false (.rw 0) 0 (List.length w),.int .i64 0]) [some ⟨1,w⟩]):=by kernel_rfl
end
open Crc
section
variable (G:Nat→List AV) (B:Nat)
theorem xO (s i:Int) (Q:Ex→List AV→Hp→Prop):vc (Kl (za G B) noSum noLoop) 100 0 (.code (A5 Try.f98 0)) (fl 17 [0,3] [.int .u32 s,.int .i64 i]) [] (lv 17 [0,3] Q)=(
  tst (decide (i<(8:Int))) ( tst (s.tmod (2:Int)==(1:Int)) ( Q .normal [.int IntKind.u32 (Gw IntKind.u32 (IntKind.u32.wrap (s.tdiv (2:Int))) (2197175160:Int)),.int IntKind.i64 (IntKind.i64.wrap (i+(1:Int)))] []) ( Q .normal [.int IntKind.u32 (IntKind.u32.wrap (s.tdiv (2:Int))),.int IntKind.i64 (IntKind.i64.wrap (i+(1:Int)))] [])) ( Q (.exit 0) [.int IntKind.u32 s,.int IntKind.i64 i] [])):=by kernel_rfl
def aD (vs:List AV) (H:Hp):Option (Bool×Ex×List AV×Hp):=match vs,H with
 | [.int .u32 s,.int .i64 i],[]=>some (decide (0≤s)&&decide (s<4294967296)&&(i==0),.exit 0,[.int .u32 (u (Aa 8 (R1 s))),.undef],[])
 | _,_=>none
theorem xM (x:Wd):AWp (za G B) 0 (.loop (A5 Try.f98 0)) (fl 17 [0,3] [.int .u32 (u x),.int .i64 0]) [] (lv 17 [0,3] fun e vs H=>e=.exit 0∧(∃ v,vs=[.int .u32 (u (Aa 8 x)),v])∧H=[]):=by
 refine X5 (fun k vs H=>∃ i:Nat,k=8 - i∧i≤8∧vs=[.int .u32 (u (Aa i x)),.int .i64 i]∧H=[]) 8 ⟨0,rfl,by omega,rfl,rfl⟩ ?_;rintro k vs H ⟨i,rfl,hi,rfl,rfl⟩;refine wp0 (mix G B) (Id _) (Nr _ _) 100 ?_;rw [xO,u_tmod,u_tdiv,aB];refine xF (fun h=>?_) (fun h=>?_)
 ·simp only [qC] at h;have hi':i<8:=by omega
  rw [B5 (by omega)];refine xF (fun hb=>?_) (fun hb=>?_)
  ·refine ⟨8 - (i+1),by omega,.inl ⟨i+1,rfl,by omega,?_,rfl⟩⟩;rw [Uh,Ca,lH,st_pos hb];rfl
  ·refine ⟨8 - (i+1),by omega,.inl ⟨i+1,rfl,by omega,?_,rfl⟩⟩;rw [lH,xS hb];rfl
 ·simp only [decide_eq_false_iff_not] at h;have hi':i=8:=by omega
  subst hi';exact ⟨rfl,⟨_,rfl⟩,rfl⟩
theorem xQ (vs:List AV) (H:Hp) (e:Ex) (vs':List AV) (H':Hp) (h:aD vs H=some (true,e,vs',H')) :
  AWp (za G B) 0 (.loop (A5 Try.f98 0)) (fl 17 [0,3] vs) H (lv 17 [0,3] fun e' vs'' H''=>e'=e∧wk vs' vs''∧H''=H'):=by
 unfold aD at h;split at h
 ·rename_i s i;simp only [zN,xH,zO,qC,beq_iff_eq] at h;obtain ⟨⟨⟨h1,h2⟩,rfl⟩,rfl,rfl,rfl⟩:=h
  have:=xM G B (R1 s)
  rw [Vz ⟨h1,h2⟩] at this;refine AWp.lmono this ?_;rintro e vs H ⟨rfl,⟨v,rfl⟩,rfl⟩;exact ⟨rfl,⟨rfl,trivial⟩,rfl⟩
 ·simp at h
def xR:Loops:=fun _ F H=>Ug 17 [0,3] aD F H
theorem aG8 (s:Int) (Q:AV→Hp→Prop):vc (Kl (za G B) noSum xR) 100 0 (.code (C3 Try.f98)) (K7 Try.f98 [.int .u32 s]) [] (L1 (za G B) Try.f98 Q)=(
  chk (decide ((0:Int)≤s)&&decide (s<(4294967296:Int))&&true) ( Q (.int IntKind.u32 (u (Aa (8:Nat) (R1 s)))) [])):=by kernel_rfl
theorem xN (x:Wd):ACalls (za G B) 98 [.int .u32 (u x)] [] fun v _=>v=.int .u32 (u (Aa 8 x)):=by
 refine call0 (sum:=noSum) (loop:=xR) (mix G B) (Id _) (f:=98) (fn:=Try.f98) (c:=C3 Try.f98) (by kernel_rfl) (by kernel_rfl) (by kernel_rfl) (.one (c:=A5 Try.f98 0) (by kernel_rfl) ?_) 100 ?_
 ·intro F H e F' H' h;have h':Ug 17 [0,3] aD F H=some (true,e,F',H'):=h;exact bG (xQ G B) h'
 ·rw [aG8,In];refine ⟨?_,?_⟩
  ·have:=Fi x
   simp [this]
  ·rw [Ca]
end
section
variable (G:Nat→List AV) (B:Nat)
theorem aO0 (Q:AV→Hp→Prop):vc (Kc (za G B)) 1000 0 (.code (C3 Try.f97)) (K7 Try.f97 []) [] (L1 (za G B) Try.f97 Q)=(
  Q (.agg [.int IntKind.u32 ((0:Int)),.int IntKind.u32 ((274646895:Int)),.int IntKind.u32 ((549293790:Int)),.int IntKind.u32 ((820201905:Int)),.int IntKind.u32 ((1098587580:Int)),.int IntKind.u32 ((1361435347:Int)),.int IntKind.u32 ((1640403810:Int)),.int IntKind.u32 ((1905808397:Int)),.int IntKind.u32 ((2197175160:Int)),.int IntKind.u32 ((2460548119:Int)),.int IntKind.u32 ((2722870694:Int)),.int IntKind.u32 ((2987750089:Int)),.int IntKind.u32 ((3280807620:Int)),.int IntKind.u32 ((3553878443:Int)),.int IntKind.u32 ((3811616794:Int)),.int IntKind.u32 ((4084100981:Int))]) [some ⟨1,[.int IntKind.u32 ((0:Int)),.int IntKind.u32 ((274646895:Int)),.int IntKind.u32 ((549293790:Int)),.int IntKind.u32 ((820201905:Int)),.int IntKind.u32 ((1098587580:Int)),.int IntKind.u32 ((1361435347:Int)),.int IntKind.u32 ((1640403810:Int)),.int IntKind.u32 ((1905808397:Int)),.int IntKind.u32 ((2197175160:Int)),.int IntKind.u32 ((2460548119:Int)),.int IntKind.u32 ((2722870694:Int)),.int IntKind.u32 ((2987750089:Int)),.int IntKind.u32 ((3280807620:Int)),.int IntKind.u32 ((3553878443:Int)),.int IntKind.u32 ((3811616794:Int)),.int IntKind.u32 ((4084100981:Int))]⟩,some ⟨1,[.int IntKind.u32 ((0:Int)),.int IntKind.u32 ((274646895:Int)),.int IntKind.u32 ((549293790:Int)),.int IntKind.u32 ((820201905:Int)),.int IntKind.u32 ((1098587580:Int)),.int IntKind.u32 ((1361435347:Int)),.int IntKind.u32 ((1640403810:Int)),.int IntKind.u32 ((1905808397:Int)),.int IntKind.u32 ((2197175160:Int)),.int IntKind.u32 ((2460548119:Int)),.int IntKind.u32 ((2722870694:Int)),.int IntKind.u32 ((2987750089:Int)),.int IntKind.u32 ((3280807620:Int)),.int IntKind.u32 ((3553878443:Int)),.int IntKind.u32 ((3811616794:Int)),.int IntKind.u32 ((4084100981:Int))]⟩]):=by kernel_rfl
theorem aA2 :ACalls (za G B) 97 [] [] fun v _=>v=.agg tab:=by
 refine call_of_vc (K:=Kc (za G B)) (goodc (mix G B)) (fun h=>by cases h) 1000 (fn:=Try.f97) (c:=C3 Try.f97) (by kernel_rfl) (by kernel_rfl) (by kernel_rfl) (fun h=>by cases h) ?_;show vc (Kc (za G B)) 1000 0 (.code (C3 Try.f97)) (K7 Try.f97 []) [] (L1 (za G B) Try.f97 _);rw [aO0];rfl
def half_sum:Sum1:=fun args _=>match args with
 | []=>some (true,.agg tab,[])
 | _=>none
theorem pS :Xu (za G B) 97 half_sum:=by
 intro args H v hs h;unfold half_sum at h;split at h
 ·simp only [zN,xH,true_and] at h;obtain ⟨rfl,rfl⟩:=h;exact Uz (C:=(za G B)) ⟨by decide,by decide⟩ ⟨rfl,rfl⟩ aA2 H
 ·simp at h
theorem aI9 (k off n:Nat) (mb:Bool) (t:List AV) (s i:Int) (Q:Ex→List AV→Hp→Prop):vc (Kn (za G B) noSum noLoop) 100 0 (.code (A5 Try.f84 0)) (fl 35 [0,5,9,10,11] [.int .u32 s,.ptr (.rw 0) 0,.slice mb (.ro k) off n,.int .i64 n,.int .i64 i]) [some ⟨1,t⟩] (lv 35 [0,5,9,10,11] Q)=(
  tst (decide (i<(↑n:Int))) ( chk (decide ((0:Int)≤i)&&decide (i<(↑n:Int))) ( chk (isI IntKind.u8 (G k) (i.toNat+off)) ( nam (A2 (G k) (i.toNat+off)) (fun y1=> nam (Gw IntKind.u32 s (IntKind.u32.wrap y1)) (fun y2=> chk (decide (P1 IntKind.u32 y2 (15:Int)<(16:Int))) ( chk (isI IntKind.u32 t (P1 IntKind.u32 y2 (15:Int)).toNat) ( nam (Gw IntKind.u32 (S4 IntKind.u32 y2 (4:Int)) (A2 t (P1 IntKind.u32 y2 (15:Int)).toNat)) (fun y3=> chk (decide (P1 IntKind.u32 y3 (15:Int)<(16:Int))) ( chk (isI IntKind.u32 t (P1 IntKind.u32 y3 (15:Int)).toNat) ( nam (Gw IntKind.u32 (S4 IntKind.u32 y3 (4:Int)) (A2 t (P1 IntKind.u32 y3 (15:Int)).toNat)) (fun y4=> Q .normal [.int IntKind.u32 y4,.ptr (.rw 0) 0,.slice mb (.ro k) off n,.int IntKind.i64 ((↑n:Int)),.int IntKind.i64 (IntKind.i64.wrap (i+(1:Int)))] [some ⟨1,t⟩]))))))))))) ( Q (.exit 0) [.int IntKind.u32 s,.ptr (.rw 0) 0,.slice mb (.ro k) off n,.int IntKind.i64 ((↑n:Int)),.int IntKind.i64 i] [some ⟨1,t⟩])):=by kernel_rfl
theorem aI7 (s:Int) (mb:Bool) (k off n:Nat) (m i:Int) (t:List AV) (hc:(decide (0≤s)&&(decide (s<4294967296)&&(decide (m=n)&&(decide (i=0)&&(decide (n≤9223372036854775807)&&(Dx .u8 (G k) off n&&Nd t))))))=true):AWp (za G B) 0 (.loop (A5 Try.f84 0)) (fl 35 [0,5,9,10,11] [.int .u32 s,.ptr (.rw 0) 0,.slice mb (.ro k) off n,.int .i64 m,.int .i64 i]) [some ⟨1,t⟩] (lv 35 [0,5,9,10,11] fun e' vs'' H''=>e'=.exit 0∧wk [.int .u32 (u (Ab (R1 s) (T1 (G k) off n))),.undef,.undef,.undef,.undef] vs''∧H''=[some ⟨1,t⟩]):=by
 simp only [zO,qC] at hc;obtain ⟨h1,h2,rfl,rfl,hn,hok,ht⟩:=hc
 refine X5 (fun j vs H=>∃ i:Nat,i≤n∧j=n - i∧vs=[.int .u32 (u (Ab (R1 s) (T1 (G k) off i))),.ptr (.rw 0) 0,.slice mb (.ro k) off n,.int .i64 n,.int .i64 i]∧H=[some ⟨1,t⟩]) n
  ⟨0,by omega,rfl,by rw [iH,Ab,Vz ⟨h1,h2⟩];rfl,rfl⟩ ?_
 rintro j vs H ⟨i,hi,rfl,rfl,rfl⟩;refine wpn (mix G B) (Id _) (Nr _ _) 100 ?_;rw [aI9];simp only [Wb,In,Jn,zO,qC,decide_eq_false_iff_not];refine ⟨fun h=>⟨⟨by omega,h⟩,?_⟩,fun h=>?_⟩
 rotate_left
 ·have:i=n:=by omega
  subst this;exact ⟨trivial,by simp [wk],trivial⟩
 have hi':i<n:=by omega
 have e1:(i:Int).toNat+off=off+i:=by omega
 rw [e1];refine ⟨Lg hok hi',?_⟩;generalize hx:Ab (R1 s) (T1 (G k) off i)=x;have ey:Gw .u32 (u x) (IntKind.u32.wrap (A2 (G k) (off+i)))=u (x ^^^ b8 (A2 (G k) (off+i))):=by rw [Uh,Ca,kV];rfl
 rw [ey];generalize hz:x ^^^ b8 (A2 (G k) (off+i))=z;have ea:∀ z:Wd,P1 .u32 (u z) 15=u (z &&& 15#32):=fun z=>by rw [kAnd_w,Ca];rfl
 have en:∀ z:Wd,(u (z &&& 15#32)).toNat=(z &&& 15#32).toNat:=fun z=>rfl;have el:∀ z:Wd,0≤u (z &&& 15#32)∧u (z &&& 15#32)<16:=fun z=>by have:=kK z;unfold u;omega
 have e4:∀ z:Wd,Gw .u32 (S4 .u32 (u z) 4) (A2 t (u (z &&& 15#32)).toNat)=u (Aa 4 z):=fun z=>by
  rw [en,aW2 ht,show (4:Int)=((4:Nat):Int) from rfl,kShr_u z 4 (by omega),Uh,Ca,Ca,←stn4]
 simp only [ea,e4];refine ⟨(el z).2,xI ht z,(el _).2,xI ht _,n - (i+1),by omega,.inl ⟨i+1,by omega,rfl,?_,trivial⟩⟩;rw [B5 (by omega),←qN,iI,Qz,hx];simp only [Ab,hz];rfl
def uE (G:Nat→List AV) (B:Nat) (vs:List AV) (H:Hp):Option (Bool×Ex×List AV×Hp):=match vs,H with
 | [.int .u32 s,.ptr (.rw 0) 0,.slice mb (.ro k) off n,.int .i64 m,.int .i64 i],[some ⟨1,t⟩]=>some (decide (0≤s)&&(decide (s<4294967296)&&(decide (m=n)&&(decide (i=0)&&(decide (n≤9223372036854775807)&&(Dx .u8 (G k) off n&&Nd t))))),.exit 0,[.int .u32 (u (Ab (R1 s) (T1 (G k) off n))),.undef,.undef,.undef,.undef],[some ⟨1,t⟩])
 | _,_=>none
theorem aJ0 (vs:List AV) (H:Hp) (e:Ex) (vs':List AV) (H':Hp) (h:uE G B vs H=some (true,e,vs',H')) :
  AWp (za G B) 0 (.loop (A5 Try.f84 0)) (fl 35 [0,5,9,10,11] vs) H (lv 35 [0,5,9,10,11] fun e' vs'' H''=>e'=e∧wk vs' vs''∧H''=H'):=by
 unfold uE at h;split at h
 ·rename_i s mb k off n m i t;simp only [zN,xH] at h;obtain ⟨hc,rfl,rfl,rfl⟩:=h;exact aI7 G B s mb k off n m i t hc
 ·simp at h
def uG (G:Nat→List AV) (B:Nat):Loops:=fun _ F H=>Ug 35 [0,5,9,10,11] (uE G B) F H
theorem run_ok :Vw (za G B) (A5 Try.f84 0) (uG G B):=uZ (aJ0 G B)
theorem aY0 (k off n:Nat) (mb:Bool) (s:Int) (Q:AV→Hp→Prop):vc (Kn (za G B) (sums [(97,half_sum)]) (uG G B)) 100 0 (.code (C3 Try.f84)) (K7 Try.f84 [.int .u32 s,.slice mb (.ro k) off n]) [] (L1 (za G B) Try.f84 Q)=(
  nam ((0:Int)) (fun y1=> chk (decide ((0:Int)≤s)&&(decide (s<(4294967296:Int))&&(decide ((↑n:Int)=(↑n:Int))&&(decide (n≤(9223372036854775807:Nat))&&(Dx IntKind.u8 (G k) off n&&Nd [AV.int IntKind.u32 (0:Int),AV.int IntKind.u32 (274646895:Int),AV.int IntKind.u32 (549293790:Int),AV.int IntKind.u32 (820201905:Int),AV.int IntKind.u32 (1098587580:Int),AV.int IntKind.u32 (1361435347:Int),AV.int IntKind.u32 (1640403810:Int),AV.int IntKind.u32 (1905808397:Int),AV.int IntKind.u32 (2197175160:Int),AV.int IntKind.u32 (2460548119:Int),AV.int IntKind.u32 (2722870694:Int),AV.int IntKind.u32 (2987750089:Int),AV.int IntKind.u32 (3280807620:Int),AV.int IntKind.u32 (3553878443:Int),AV.int IntKind.u32 (3811616794:Int),AV.int IntKind.u32 (4084100981:Int)]))))) ( nam (u (Ab (R1 s) (T1 (G k) off n))) (fun y2=> Q (.int IntKind.u32 y2) [some ⟨1,[.int IntKind.u32 ((0:Int)),.int IntKind.u32 ((274646895:Int)),.int IntKind.u32 ((549293790:Int)),.int IntKind.u32 ((820201905:Int)),.int IntKind.u32 ((1098587580:Int)),.int IntKind.u32 ((1361435347:Int)),.int IntKind.u32 ((1640403810:Int)),.int IntKind.u32 ((1905808397:Int)),.int IntKind.u32 ((2197175160:Int)),.int IntKind.u32 ((2460548119:Int)),.int IntKind.u32 ((2722870694:Int)),.int IntKind.u32 ((2987750089:Int)),.int IntKind.u32 ((3280807620:Int)),.int IntKind.u32 ((3553878443:Int)),.int IntKind.u32 ((3811616794:Int)),.int IntKind.u32 ((4084100981:Int))]⟩])))):=by kernel_rfl
theorem aI8 (k off n:Nat) (mb:Bool) (x:Wd) (hn:n≤9223372036854775807) (hok:Dx .u8 (G k) off n=true):ACalls (za G B) 84 [.int .u32 (u x),.slice mb (.ro k) off n] [] fun v _=>v=.int .u32 (u (Ab x (T1 (G k) off n))):=by
 refine wF (mix G B) (Tg (pS G B) (Yo _)) (loop:=uG G B) (fn:=Try.f84) (c:=C3 Try.f84) (by kernel_rfl) (by kernel_rfl) (by kernel_rfl) (.cast (.cons (run_ok G B) .nil) (by kernel_rfl)) 100 ?_;rw [aY0]
 have:=Fi x
 simp only [Jn,In,zO,qC,Ca];exact ⟨⟨this.1,this.2,trivial,hn,hok,tab_ok⟩,trivial⟩
def dC (C:A1):Sum1:=fun args H=>match args with
 | [.int .u32 s,.slice _ r off n]=>match E5 C H r with
  | some cs=>some (decide (0≤s)&&(decide (s<4294967296)&&(decide (n≤9223372036854775807)&&Dx .u8 cs off n)),.int .u32 (u (Ab (R1 s) (T1 cs off n))),[])
  | none=>none
 | _=>none
theorem uC :Xu (za G B) 84 (dC (za G B)):=by
 intro args H v hs h;unfold dC at h;split at h
 ·rename_i s mb r off n;split at h
  ·rename_i cs hcs;simp only [zN,xH,zO,qC] at h;obtain ⟨⟨h1,h2,h3,h4⟩,rfl,rfl⟩:=h;have key:=fun B'=>aI8 (G1 ((cs.drop off).take n)) B' 0 0 n mb (R1 s) h3 (aL6 h4);rw [Vz ⟨h1,h2⟩] at key;refine Pl (C:=(za G B)) (args0:=[.int .u32 s,.slice mb (.ro 0) 0 n]) (sees1 hcs off n (aL7 h4)) (R:=fun v=>v=.int .u32 (u (Ab (R1 s) (T1 cs off n)))) (fun B'=>?_) (by simp [J0,E8]) (by simp [sbs,sb,sig1]) (fun v hv=>by subst hv;simp [B0,M1])
   have:=key B'
   simp only [G1,aA1] at this;exact this
  ·simp at h
 ·simp at h
end
end Go.Am
