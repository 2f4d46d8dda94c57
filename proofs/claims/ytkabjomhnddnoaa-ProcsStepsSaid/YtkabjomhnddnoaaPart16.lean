/-
  Processes: the program's Take. Processes: the program's Kill: a round.
-/
import Derived.Test.YtkabjomhnddnoaaPart15
namespace Go.Am
open Go.Proofs Crc
set_option maxRecDepth 100000
theorem t_c (G:Nat→List AV) (okP2:List AV→Bool) (xoP:List AV→List AV) (tb sl:List AV) (n:Int) (Q:Ex→List AV→Hp→Prop) (R:AV→Hp→Prop):vT G Q R (D0 (Df Try.prog [(48,1,13)] [36,38,39,20] [(66,Pw N0),(27,Ws 2101 okP2 xoP tsP .move endK)] [] 0) 300 40 Try.f33 [.ptr (.rw 0) (.lit 0),.int .i64 (.var 3 n)] (hp3 [some ⟨1,.var 1 tb⟩] (.var 2 sl) []) 40)=(
  isB tb (0)=true∧(A5 tb (0)=true→(decide ((n:Int)≥1)=true→(decide ((n:Int)≤12)=true→decide ((0:Int)≤n)=true∧decide ((n:Int)<13)=true∧isI .i64 tb ((Int.toNat (n))*7+1)=true∧(((A0 tb ((Int.toNat (n))*7+1):Int)==n)=true→decide ((0:Int)≤n)=true∧decide ((n:Int)<13)=true∧isB tb ((Int.toNat (n))*7+5)=true∧(A5 tb ((Int.toNat (n))*7+5)=true→R (.tup [.agg ([.int .i64 (0),.bool (false),.int .u32 (0)]:List AV),.bool (false)]) ([some ⟨1,tb⟩]++(A2 sl++[some ⟨1,([.int .i64 (0),.bool (false),.int .u32 (0)]:List AV)⟩])))∧(A5 tb ((Int.toNat (n))*7+5)=false→decide ((0:Int)≤n)=true∧decide ((n:Int)<13)=true∧(B4 tb ((Int.toNat (n))*7+7)=true→False)∧(B4 tb ((Int.toNat (n))*7+7)=false→J4 1 13 tb ((Int.toNat (n))*7+7)=true∧Nat.beq (K4 tb ((Int.toNat (n))*7+7)) (0)=true∧leB (A4 1 tb ((Int.toNat (n))*7+7)+1) (13)=true∧rowsA sl (rp 13 sl)=true∧leB (A4 1 tb ((Int.toNat (n))*7+7)+1) (List.length sl)=true∧okU [.agg (A1 sl (A4 1 tb ((Int.toNat (n))*7+7)))]=true∧(Db [.agg (A1 sl (A4 1 tb ((Int.toNat (n))*7+7)))]=true→(J3 [.agg (A1 sl (A4 1 tb ((Int.toNat (n))*7+7)))]=true→
 rowsA (D5 sl (A4 1 tb ((Int.toNat (n))*7+7)) (M1 [.agg (A1 sl (A4 1 tb ((Int.toNat (n))*7+7)))])) [.agg (D5 sl (A4 1 tb ((Int.toNat (n))*7+7)) (M1 [.agg (A1 sl (A4 1 tb ((Int.toNat (n))*7+7)))])),.agg (D5 sl (A4 1 tb ((Int.toNat (n))*7+7)) (M1 [.agg (A1 sl (A4 1 tb ((Int.toNat (n))*7+7)))])),.agg (D5 sl (A4 1 tb ((Int.toNat (n))*7+7)) (M1 [.agg (A1 sl (A4 1 tb ((Int.toNat (n))*7+7)))])),.agg (D5 sl (A4 1 tb ((Int.toNat (n))*7+7)) (M1 [.agg (A1 sl (A4 1 tb ((Int.toNat (n))*7+7)))])),.agg (D5 sl (A4 1 tb ((Int.toNat (n))*7+7)) (M1 [.agg (A1 sl (A4 1 tb ((Int.toNat (n))*7+7)))])),.agg (D5 sl (A4 1 tb ((Int.toNat (n))*7+7)) (M1 [.agg (A1 sl (A4 1 tb ((Int.toNat (n))*7+7)))])),.agg (D5 sl (A4 1 tb ((Int.toNat (n))*7+7)) (M1 [.agg (A1 sl (A4 1 tb ((Int.toNat (n))*7+7)))])),.agg (D5 sl (A4 1 tb ((Int.toNat (n))*7+7)) (M1 [.agg (A1 sl (A4 1 tb ((Int.toNat (n))*7+7)))])),.agg (D5 sl (A4 1 tb ((Int.toNat (n))*7+7)) (M1 [.agg (A1 sl (A4 1 tb ((Int.toNat (n))*7+7)))])),.agg (D5 sl (A4 1 tb ((Int.toNat (n))*7+7)) (M1 [.agg (A1 sl (A4 1 tb ((Int.toNat (n))*7+7)))])),.agg (D5 sl (A4 1 tb ((Int.toNat (n))*7+7)) (M1 [.agg (A1 sl (A4 1 tb ((Int.toNat (n))*7+7)))])),.agg (D5 sl (A4 1 tb ((Int.toNat (n))*7+7)) (M1 [.agg (A1 sl (A4 1 tb ((Int.toNat (n))*7+7)))])),.agg (D5 sl (A4 1 tb ((Int.toNat (n))*7+7)) (M1 [.agg (A1 sl (A4 1 tb ((Int.toNat (n))*7+7)))]))]=true∧(okP2) [.agg tb,.agg (D5 sl (A4 1 tb ((Int.toNat (n))*7+7)) (M1 [.agg (A1 sl (A4 1 tb ((Int.toNat (n))*7+7)))]))]=true∧
 R (.tup [.agg ([.int .i64 (G3 [.agg (A1 sl (A4 1 tb ((Int.toNat (n))*7+7)))]),.bool (J3 [.agg (A1 sl (A4 1 tb ((Int.toNat (n))*7+7)))]),.int .u32 (T9 [.agg (A1 sl (A4 1 tb ((Int.toNat (n))*7+7)))])]:List AV),.bool (Db [.agg (A1 sl (A4 1 tb ((Int.toNat (n))*7+7)))])]) ([some ⟨1,((I3 tsP) [.int .i64 (16),.agg ((T6 P6) [.agg ((xoP) [.agg tb,.agg (D5 sl (A4 1 tb ((Int.toNat (n))*7+7)) (M1 [.agg (A1 sl (A4 1 tb ((Int.toNat (n))*7+7)))]))]),.int .i64 (n),.int .i64 (IntKind.wrap .i64 (128+G3 [.agg (A1 sl (A4 1 tb ((Int.toNat (n))*7+7)))]))])])⟩,none,none,none,none,none,none,none,none,none,none,none,none,none,some ⟨1,([.int .i64 (G3 [.agg (A1 sl (A4 1 tb ((Int.toNat (n))*7+7)))]),.bool (J3 [.agg (A1 sl (A4 1 tb ((Int.toNat (n))*7+7)))]),.int .u32 (T9 [.agg (A1 sl (A4 1 tb ((Int.toNat (n))*7+7)))])]:List AV)⟩,some ⟨1,([.int .i64 (G3 [.agg (A1 sl (A4 1 tb ((Int.toNat (n))*7+7)))]),.bool (J3 [.agg (A1 sl (A4 1 tb ((Int.toNat (n))*7+7)))]),.int .u32 (T9 [.agg (A1 sl (A4 1 tb ((Int.toNat (n))*7+7)))])]:List AV)⟩]++Ff ((T6 P6) [.agg ((xoP) [.agg tb,.agg (D5 sl (A4 1 tb ((Int.toNat (n))*7+7)) (M1 [.agg (A1 sl (A4 1 tb ((Int.toNat (n))*7+7)))]))]),.int .i64 (n),.int .i64 (IntKind.wrap .i64 (128+G3 [.agg (A1 sl (A4 1 tb ((Int.toNat (n))*7+7)))]))])))∧(J3 [.agg (A1 sl (A4 1 tb ((Int.toNat (n))*7+7)))]=false→
 R (.tup [.agg ([.int .i64 (G3 [.agg (A1 sl (A4 1 tb ((Int.toNat (n))*7+7)))]),.bool (J3 [.agg (A1 sl (A4 1 tb ((Int.toNat (n))*7+7)))]),.int .u32 (T9 [.agg (A1 sl (A4 1 tb ((Int.toNat (n))*7+7)))])]:List AV),.bool (Db [.agg (A1 sl (A4 1 tb ((Int.toNat (n))*7+7)))])]) ([some ⟨1,tb⟩]++(A2 (D5 sl (A4 1 tb ((Int.toNat (n))*7+7)) (M1 [.agg (A1 sl (A4 1 tb ((Int.toNat (n))*7+7)))]))++[some ⟨1,([.int .i64 (G3 [.agg (A1 sl (A4 1 tb ((Int.toNat (n))*7+7)))]),.bool (J3 [.agg (A1 sl (A4 1 tb ((Int.toNat (n))*7+7)))]),.int .u32 (T9 [.agg (A1 sl (A4 1 tb ((Int.toNat (n))*7+7)))])]:List AV)⟩,some ⟨1,([.int .i64 (G3 [.agg (A1 sl (A4 1 tb ((Int.toNat (n))*7+7)))]),.bool (J3 [.agg (A1 sl (A4 1 tb ((Int.toNat (n))*7+7)))]),.int .u32 (T9 [.agg (A1 sl (A4 1 tb ((Int.toNat (n))*7+7)))])]:List AV)⟩]))))∧(Db [.agg (A1 sl (A4 1 tb ((Int.toNat (n))*7+7)))]=false→
 R (.tup [.agg ([.int .i64 (G3 [.agg (A1 sl (A4 1 tb ((Int.toNat (n))*7+7)))]),.bool (J3 [.agg (A1 sl (A4 1 tb ((Int.toNat (n))*7+7)))]),.int .u32 (T9 [.agg (A1 sl (A4 1 tb ((Int.toNat (n))*7+7)))])]:List AV),.bool (Db [.agg (A1 sl (A4 1 tb ((Int.toNat (n))*7+7)))])]) ([some ⟨1,tb⟩]++(A2 (D5 sl (A4 1 tb ((Int.toNat (n))*7+7)) (M1 [.agg (A1 sl (A4 1 tb ((Int.toNat (n))*7+7)))]))++[some ⟨1,([.int .i64 (G3 [.agg (A1 sl (A4 1 tb ((Int.toNat (n))*7+7)))]),.bool (J3 [.agg (A1 sl (A4 1 tb ((Int.toNat (n))*7+7)))]),.int .u32 (T9 [.agg (A1 sl (A4 1 tb ((Int.toNat (n))*7+7)))])]:List AV)⟩,some ⟨1,([.int .i64 (G3 [.agg (A1 sl (A4 1 tb ((Int.toNat (n))*7+7)))]),.bool (J3 [.agg (A1 sl (A4 1 tb ((Int.toNat (n))*7+7)))]),.int .u32 (T9 [.agg (A1 sl (A4 1 tb ((Int.toNat (n))*7+7)))])]:List AV)⟩]))))))∧(((A0 tb ((Int.toNat (n))*7+1):Int)==n)=false→R (.tup [.agg ([.int .i64 (0),.bool (false),.int .u32 (0)]:List AV),.bool (false)]) ([some ⟨1,tb⟩]++(A2 sl++[some ⟨1,([.int .i64 (0),.bool (false),.int .u32 (0)]:List AV)⟩]))))∧(decide ((n:Int)≤12)=false→R (.tup [.agg ([.int .i64 (0),.bool (false),.int .u32 (0)]:List AV),.bool (false)]) ([some ⟨1,tb⟩]++(A2 sl++[some ⟨1,([.int .i64 (0),.bool (false),.int .u32 (0)]:List AV)⟩]))))∧(decide ((n:Int)≥1)=false→R (.tup [.agg ([.int .i64 (0),.bool (false),.int .u32 (0)]:List AV),.bool (false)]) ([some ⟨1,tb⟩]++(A2 sl++[some ⟨1,([.int .i64 (0),.bool (false),.int .u32 (0)]:List AV)⟩]))))∧(A5 tb (0)=false→R (.tup [.agg ([.int .i64 (0),.bool (false),.int .u32 (0)]:List AV),.bool (false)]) ([some ⟨1,tb⟩]++(A2 sl++[some ⟨1,([.int .i64 (0),.bool (false),.int .u32 (0)]:List AV)⟩])))):=by kernel_rfl
def J7 (s:Ptb) (n:Int):Ptb:=R7 s n.toNat (some (Io (C1 s n.toNat)))
def I7 (s:Ptb) (n:Int):Ptb:=
 if live s n=true then (if (Co (C1 s n.toNat)&&Bo (C1 s n.toNat))=true then P6 (J7 s n) n (128+T8 (C1 s n.toNat)) else J7 s n) else s
def Hr (s:Ptb) (n:Int):Int:=if live s n=true then T8 (C1 s n.toNat) else 0
def Ef (s:Ptb) (n:Int):Bool:=if live s n=true then Bo (C1 s n.toNat) else false
def Eg (s:Ptb) (n:Int):Int:=if live s n=true then Kh (C1 s n.toNat) else 0
def Ln (s:Ptb) (n:Int):Bool:=if live s n=true then Co (C1 s n.toNat) else false
def Bp (s:Ptb) (n:Int):AV:=.tup [.agg [.int .i64 (Hr s n),.bool (Ef s n),.int .u32 (Eg s n)],.bool (Ln s n)]
theorem Wf.takeS1 {s:Ptb} (h:Wf s) {n:Int} (hl:live s n=true):Wf (J7 s n):=by
 have hl:=H6.1 hl;exact h.updS (by omega)
theorem Wf.takeX {s:Ptb} (h:Wf s) (n:Int):Wf (I7 s n):=by
 unfold Go.Am.I7;split
 ·rename_i hl;split
  ·exact (h.takeS1 hl).endR _ _
  ·exact h.takeS1 hl
 ·exact h
theorem Fe {t:TS} {s:Ptb} {c:Nat} {q:Sg} (hc:c<13):D5 (setsL t.enc s) c (t.enc q)=setsL t.enc (R7 s c (some q)):=by
 unfold D5 setsL;refine List.ext_getElem? fun i=>?_;rw [List.getElem?_set,List.length_map,List.length_range];by_cases e:c=i
 ·subst e;rw [if_pos rfl,if_pos hc,List.getElem?_map,List.getElem?_range hc];simp only [Option.map_some];congr 2;show t.enc q=I4 t.enc (if c=c then some q else s.sg c);rw [if_pos rfl];rfl
 ·rw [if_neg e,List.getElem?_map,List.getElem?_map];by_cases hi:i<13
  ·rw [List.getElem?_range hi];simp only [Option.map_some];congr 2;show I4 t.enc (s.sg i)=I4 t.enc (if i=c then some q else s.sg i);rw [if_neg (fun h=>e h.symm)]
  ·rw [List.getElem?_eq_none (by simpa using hi)];rfl
theorem aD (p:Sg):0≤T8 p∧T8 p≤15:=by
 unfold T8
 have:tkN p<16:=Wy _
 split<;>omega
theorem seen_B {s:Ptb} {b:Nat} {E:Hp} {H:Hp} (h0:H[0]?=some (some ⟨1,encT b s⟩)) (h1:∀ n,n<13→H[b+n]?=some (some ⟨1,I4 encP (s.sg n)⟩)):Nz tsP s b H:=
 ⟨h0,fun n hn=>⟨_,h1 n hn,fun p hp=>by rw [hp];rfl⟩⟩
theorem mL {t:TS} (ht:O7 t) {C:A3} {f:FuncId} {args:List AV} {s s':Ptb} {v:AV} {k b:Nat} (hb:14≤b) (h:ACalls C f args (B0 t s) fun v' H'=>v'=v∧(H7 t s' 13 (H'.take k)∨Nz t s' b (H'.take k))) (hv:bnd 0 v=true):ACalls C f args (B0 t s) fun v' H'=>v'=v∧H'=V2 t s':=
 h.view fun v' H' ⟨e,h2⟩=>⟨v,V2 t s',⟨rfl,rfl⟩,by
  subst e;rw [A9]
  have g:∀ {i:Nat} {b},(H'.take k)[i]?=some b→H'[i]?=some b:=fun {i b} hb=>by
   rw [List.getElem?_take] at hb;split at hb
   ·exact hb
   ·cases hb
  rcases h2 with h2 | h2
  ·exact (h2.more.q ht 14).move ht (by omega) (fun h=>absurd rfl h) hv
  ·have h3:Nz t s' b H':=⟨g h2.tab,fun n hn=>by
    obtain ⟨cs,q1,q2⟩:=h2.sets n hn
    exact ⟨cs,g q1,q2⟩⟩
   exact h3.move ht hb hv⟩
theorem aP8 (G:Nat→List AV) (B:Nat) {s:Ptb} (hw:Wf s) (n:Int):ACalls (⟨Try.prog,G,B⟩:A3) 33 [.ptr (.rw 0) 0,.int .i64 n] (B0 tsP s) fun v H'=>v=Bp s n∧H'=V2 tsP (I7 s n):=by
 have hs:T4 (⟨Try.prog,G,B⟩:A3) [(66,Pw N0),(27,Ws 2101 (Ne tsP) (Ke tsP) tsP .move endK)]:=
  .cons (jF (S0 G) (p_take G B)) (.cons (qY tsP_ok qG (endK_ok (fun s hw n a=>p_end G B hw n a) (by intro h;cases h))) .nil)
 have h:=D3 (C:=(⟨Try.prog,G,B⟩:A3)) (K:=Df Try.prog [(48,1,13)] [36,38,39,20] [(66,Pw N0),(27,Ws 2101 (Ne tsP) (Ke tsP) tsP .move endK)] [] 0) (fuel:=300) (n0:=40) (f:=33) (fn:=Try.f33) (args:=[.ptr (.rw 0) (.lit 0),.int .i64 (.var 3 n)]) (H:=(hp3 [some ⟨1,.var 1 (encT 1 s)⟩] (.var 2 (setsL encP s)) [])) (keep:=40)
  (R:=fun v H=>v=Bp s n∧(H7 tsP (I7 s n) 13 (H.take 14)∨Nz tsP (I7 s n) 16 H)) (dgM (B:=B) (by kernel_rfl) hs) (by kernel_rfl) (by kernel_rfl) (by kernel_rfl) (by
  have:=t_c G (Ne tsP) (Ke tsP) (encT 1 s) (setsL encP s) n (fun _ _ _=>False) (fun v H=>v=Bp s n∧(H7 tsP (I7 s n) 13 (H.take 14)∨Nz tsP (I7 s n) 16 H))
  refine Eq.mpr this ?_;refine ⟨rfl,fun _=>S8 1 (fun hl=>?_) fun hl=>?_,fun h=>by cases h⟩
  ·have h:=H6.1 hl;have hi:isP s n=true:=I0.2 ⟨h.1,h.2.1,h.2.2.1⟩;obtain ⟨p,hp⟩:=hw.live_sg hi;obtain ⟨e1,e2,e3,e4,e5⟩:=Aa (by omega) hp;have ed:C1 s n.toNat=p:=by unfold C1;rw [hp];rfl
   have w1:=hw.takeS1 hl
   have es:D5 (setsL encP s) n.toNat (encP (Io p))=setsL encP (J7 s n):=by
    unfold J7;rw [ed];exact Fe (t:=tsP) (by omega)
   have et:encT 1 s=tsP.tb (B3 1 (J7 s n)) (J7 s n):=by
    show encV (B3 1 s) s=encV (B3 1 (J7 s n)) (J7 s n);unfold J7;rw [Z9 hp];rfl
   have ex:Ke tsP [.agg (encT 1 s),.agg (setsL encP (J7 s n))]=encX (J7 s n):=by
    rw [et];exact Rw qG w1
   have hsg:=aD p;rw [e3,e4,e5,Mh,Hj,Jd,Mi,Se,es,ex,D9 (by omega),Ad w1.thin]
   have hv:Bp s n=.tup [.agg [.int .i64 (T8 p),.bool (Bo p),.int .u32 (Kh p)],.bool (Co p)]:=by
    unfold Bp Hr Ef Eg Ln;rw [if_pos hl,if_pos hl,if_pos hl,if_pos hl,ed]
   have sst:I7 s n=J7 s n→H7 tsP (I7 s n) 13 (some ⟨1,encT 1 s⟩::(List.range 13).map fun j=>some ⟨1,A1 (setsL encP (J7 s n)) j⟩):=fun e=>by
    rw [e];refine seen_rows (t:=tsP) et tsP_ok ?_;intro j hj q hq;rw [K9 hj,hq];rfl
   refine ⟨decide_eq_true (by omega),decide_eq_true (by omega),(fun h=>by rw [e1] at h;cases h),fun _=>⟨e2,rfl,A6.2 (by omega),D6 _ 13,A6.2 (by rw [F8];omega),O8 p,fun ho=>⟨fun hn=>⟨D6 _ 13,Pj.2 ⟨_,w1,et,rfl⟩,hv.symm,.inr ?_⟩,fun hn=>⟨hv.symm,.inl ?_⟩⟩,fun ho=>⟨hv.symm,.inl ?_⟩⟩⟩
   ·have eX:I7 s n=P6 (J7 s n) n (128+T8 p):=by
     unfold I7;rw [if_pos hl,ed,ho,hn];rfl
    rw [eX];have we:Wf (P6 (J7 s n) n (128+T8 p)):=w1.endR _ _;generalize P6 (J7 s n) n (128+T8 p)=s9 at we;refine seen_B (E:=[]) ?_ fun j hj=>?_
    ·show some (some (⟨1,I3 tsP [.int .i64 16,.agg (encX s9)]⟩:Blk))=_;simp only [I3,C7 we.thin];rfl
    ·have e9:∀ j,A7 tsP j [.agg (encX s9)]=I4 encP (s9.sg j):=fun j=>by simp only [A7,C7 we.thin];rfl
     match j,hj with
     | 0,_ | 1,_ | 2,_ | 3,_ | 4,_ | 5,_ | 6,_ | 7,_ | 8,_ | 9,_ | 10,_ | 11,_ | 12,_=>exact congrArg (fun l=>some (some (⟨1,l⟩:Blk))) (e9 _)
   ·refine sst ?_;unfold I7;rw [if_pos hl,ed,ho,hn];rfl
   ·refine sst ?_;unfold I7;rw [if_pos hl,ed,ho];rfl
  ·have hv:Bp s n=.tup [.agg [.int .i64 0,.bool false,.int .u32 0],.bool false]:=by
    unfold Bp Hr Ef Eg Ln;rw [hl];rfl
   have hx:I7 s n=s:=by unfold I7;rw [hl];rfl
   rw [hx]
   exact ⟨hv.symm,.inl G1⟩)
 rw [hT] at h;refine mL tsP_ok (k:=40) (b:=16) (by omega) (h.monoK fun v H ⟨a,b⟩=>⟨a,b.imp (fun b=>b.more) id⟩) rfl
end Go.Am
namespace Go.Am
open Go.Proofs Crc
set_option maxRecDepth 100000
def X2 (T S:EL) (to sg me:EI) (st sm:EB) (rc:EL):DHp:=[some ⟨1,T⟩,some ⟨1,.row S (.lit 0)⟩,some ⟨1,.row S (.lit 1)⟩,some ⟨1,.row S (.lit 2)⟩,some ⟨1,.row S (.lit 3)⟩,some ⟨1,.row S (.lit 4)⟩,some ⟨1,.row S (.lit 5)⟩,some ⟨1,.row S (.lit 6)⟩,some ⟨1,.row S (.lit 7)⟩,some ⟨1,.row S (.lit 8)⟩,some ⟨1,.row S (.lit 9)⟩,some ⟨1,.row S (.lit 10)⟩,some ⟨1,.row S (.lit 11)⟩,some ⟨1,.row S (.lit 12)⟩,some ⟨1,.of [.ptr (.rw 0) (.lit 0)]⟩,some ⟨1,.of [.int .i64 to]⟩,some ⟨1,.of [.int .i64 sg]⟩,some ⟨1,.of [.int .i64 me]⟩,some ⟨1,.of [.bool st]⟩,some ⟨1,.of [.func 53 [.ptr (.rw 17) (.lit 0),.ptr (.rw 14) (.lit 0),.ptr (.rw 18) (.lit 0),.ptr (.rw 16) (.lit 0)]]⟩,some ⟨1,.of [.bool sm]⟩,some ⟨1,.of [.ptr (.rw 0) (.lit 0)]⟩,some ⟨4294967291,rc⟩]
theorem m_as' (G:Nat→List AV) (tb sl rc xr:List AV) (to sg me:Int) (st sm:Bool) (x0 x1 x2 x3:Int) (xb:Bool) (x5:Int) (Q:Ex→List AV→Hp→Prop) (R:AV→Hp→Prop):vT G Q R (J6 (Df Try.prog [(48,1,13)] [53,20,39,36] [(23,Gb N0)] [] 0) 200 60 24 (Gy (loopN Try.f21 0)) 71 [6,8,11,12,13,43,44,14] [.ptr (.rw 15) (.lit 0),.int .i64 (.lit 0),.ptr (.rw 18) (.lit 0),.ptr (.rw 19) (.lit 0),.ptr (.rw 20) (.lit 0),.func 76 [.ptr (.rw 21) (.lit 0)],.agg (.of [.int .i64 (.var 11 x0),.int .i64 (.var 12 x1),.int .i64 (.var 13 x2),.int .i64 (.var 14 x3),.bool (.var 15 xb),.int .i64 (.var 16 x5)]),.undef] ((X2 (.var 1 tb) (.var 2 sl) (.var 3 to) (.var 4 sg) (.var 5 me) (.var 6 st) (.var 7 sm) (.var 24 rc))++[some ⟨1,.var 23 xr⟩]))=(
  Q .normal [.ptr (.rw 15) (0),.int .i64 (0),.ptr (.rw 18) (0),.ptr (.rw 19) (0),.ptr (.rw 20) (0),.func 76 [.ptr (.rw 21) (0)],.agg ([.int .i64 (x0),.int .i64 (x1),.int .i64 (x2),.int .i64 (x3),.bool (xb),.int .i64 (x5)]:List AV),.ptr (.rw 24) (0)] ([some ⟨1,tb⟩]++(A2 sl++[some ⟨1,([.ptr (.rw 0) (0)]:List AV)⟩,some ⟨1,([.int .i64 (to)]:List AV)⟩,some ⟨1,([.int .i64 (sg)]:List AV)⟩,some ⟨1,([.int .i64 (me)]:List AV)⟩,some ⟨1,([.bool (st)]:List AV)⟩,some ⟨1,([.func 53 [.ptr (.rw 17) (0),.ptr (.rw 14) (0),.ptr (.rw 18) (0),.ptr (.rw 16) (0)]]:List AV)⟩,some ⟨1,([.bool (sm)]:List AV)⟩,some ⟨1,([.ptr (.rw 0) (0)]:List AV)⟩,some ⟨4294967291,rc⟩,some ⟨1,xr⟩,some ⟨1,([.int .i64 (x0),.int .i64 (x1),.int .i64 (x2),.int .i64 (x3),.bool (xb),.int .i64 (x5)]:List AV)⟩]))):=by kernel_rfl
def O3 (rc:List AV) (xr:List AV) (to:Int) (sg:Int) (me:Int) (x0:Int) (x1:Int) (x2:Int) (x3:Int) (xb:Bool) (x5:Int):Hp:=[some ⟨1,([.ptr (.rw 0) (0)]:List AV)⟩,some ⟨1,([.int .i64 (to)]:List AV)⟩,some ⟨1,([.int .i64 (sg)]:List AV)⟩,some ⟨1,([.int .i64 (me)]:List AV)⟩,some ⟨1,([.bool (true)]:List AV)⟩,some ⟨1,([.func 53 [.ptr (.rw 17) (0),.ptr (.rw 14) (0),.ptr (.rw 18) (0),.ptr (.rw 16) (0)]]:List AV)⟩,some ⟨1,([.bool (true)]:List AV)⟩,some ⟨1,([.ptr (.rw 0) (0)]:List AV)⟩,some ⟨4294967291,rc⟩,some ⟨1,xr⟩,some ⟨1,([.int .i64 (x0),.int .i64 (x1),.int .i64 (x2),.int .i64 (x3),.bool (xb),.int .i64 (x5)]:List AV)⟩]
def L6 (x0:Int) (x1:Int) (x2:Int) (x3:Int) (xb:Bool) (x5:Int):List AV:=[.ptr (.rw 15) (0),.int .i64 (0),.ptr (.rw 18) (0),.ptr (.rw 19) (0),.ptr (.rw 20) (0),.func 76 [.ptr (.rw 21) (0)],.agg ([.int .i64 (x0),.int .i64 (x1),.int .i64 (x2),.int .i64 (x3),.bool (xb),.int .i64 (x5)]:List AV),.ptr (.rw 24) (0)]
def cT:List AV:=[.func 53 [.ptr (.rw 17) (0),.ptr (.rw 14) (0),.ptr (.rw 18) (0),.ptr (.rw 16) (0)]]
theorem m_bd (G:Nat→List AV) (tb sl rc xr:List AV) (to sg me:Int) (st sm:Bool) (x0 x1 x2 x3:Int) (xb:Bool) (x5:Int) (Q:Ex→List AV→Hp→Prop) (R:AV→Hp→Prop):vT G Q R (J6 (Df Try.prog [(48,1,13)] [53,20,39,36] [(23,Gb N0)] [] 0) 300 60 24 (Fi (loopN Try.f21 0)) 71 [6,8,11,12,13,43,44,14] [.ptr (.rw 15) (.lit 0),.int .i64 (.lit 0),.ptr (.rw 18) (.lit 0),.ptr (.rw 19) (.lit 0),.ptr (.rw 20) (.lit 0),.func 76 [.ptr (.rw 21) (.lit 0)],.agg (.of [.int .i64 (.var 11 x0),.int .i64 (.var 12 x1),.int .i64 (.var 13 x2),.int .i64 (.var 14 x3),.bool (.var 15 xb),.int .i64 (.var 16 x5)]),.ptr (.rw 24) (.lit 0)] (((X2 (.var 1 tb) (.var 2 sl) (.var 3 to) (.var 4 sg) (.var 5 me) (.var 6 st) (.var 7 sm) (.var 24 rc))++[some ⟨1,.var 23 xr⟩])++[some ⟨1,(.of [.int .i64 (.var 11 x0),.int .i64 (.var 12 x1),.int .i64 (.var 13 x2),.int .i64 (.var 14 x3),.bool (.var 15 xb),.int .i64 (.var 16 x5)])⟩]))=(
  (((to:Int)==x0)=true→(((me:Int)==0)=true→isB tb (0)=true∧(A5 tb (0)=true→(decide ((x0:Int)≥1)=true→(decide ((x0:Int)≤12)=true→decide ((0:Int)≤x0)=true∧decide ((x0:Int)<13)=true∧isI .i64 tb ((Int.toNat (x0))*7+1)=true∧(((A0 tb ((Int.toNat (x0))*7+1):Int)==x0)=true→decide ((0:Int)≤x0)=true∧decide ((x0:Int)<13)=true∧isB tb ((Int.toNat (x0))*7+5)=true∧(A5 tb ((Int.toNat (x0))*7+5)=true→Q .normal (L6 x0 x1 x2 x3 xb x5) ([some ⟨1,tb⟩]++(A2 sl++(O3 rc xr to sg me x0 x1 x2 x3 xb x5))))∧(A5 tb ((Int.toNat (x0))*7+5)=false→decide ((0:Int)≤x0)=true∧decide ((x0:Int)<13)=true∧(B4 tb ((Int.toNat (x0))*7+7)=true→False)∧(B4 tb ((Int.toNat (x0))*7+7)=false→J4 1 13 tb ((Int.toNat (x0))*7+7)=true∧Nat.beq (K4 tb ((Int.toNat (x0))*7+7)) (0)=true∧leB (A4 1 tb ((Int.toNat (x0))*7+7)+1) (13)=true∧rowsA sl (rp 13 sl)=true∧leB (A4 1 tb ((Int.toNat (x0))*7+7)+1) (List.length sl)=true∧okU [.agg (A1 sl (A4 1 tb ((Int.toNat (x0))*7+7)))]=true∧Q .normal (L6 x0 x1 x2 x3 xb x5) ([some ⟨1,tb⟩]++(A2 (D5 sl (A4 1 tb ((Int.toNat (x0))*7+7)) (W6 [.agg (A1 sl (A4 1 tb ((Int.toNat (x0))*7+7))),.int .i64 (sg)]))++(O3 rc xr to sg me x0 x1 x2 x3 xb x5))))))∧(((A0 tb ((Int.toNat (x0))*7+1):Int)==x0)=false→Q .normal (L6 x0 x1 x2 x3 xb x5) ([some ⟨1,tb⟩]++(A2 sl++(O3 rc xr to sg me x0 x1 x2 x3 xb x5)))))∧(decide ((x0:Int)≤12)=false→Q .normal (L6 x0 x1 x2 x3 xb x5) ([some ⟨1,tb⟩]++(A2 sl++(O3 rc xr to sg me x0 x1 x2 x3 xb x5)))))∧(decide ((x0:Int)≥1)=false→Q .normal (L6 x0 x1 x2 x3 xb x5) ([some ⟨1,tb⟩]++(A2 sl++(O3 rc xr to sg me x0 x1 x2 x3 xb x5)))))∧(A5 tb (0)=false→Q .normal (L6 x0 x1 x2 x3 xb x5) ([some ⟨1,tb⟩]++(A2 sl++(O3 rc xr to sg me x0 x1 x2 x3 xb x5)))))∧(((me:Int)==0)=false→
 decide ((0:Int)≤x0)=true∧decide ((x0:Int)<13)=true∧isI .i64 tb ((Int.toNat (x0))*7+4)=true∧(((me:Int)==A0 tb ((Int.toNat (x0))*7+4))=true→isB tb (0)=true∧(A5 tb (0)=true→(decide ((x0:Int)≥1)=true→(decide ((x0:Int)≤12)=true→decide ((0:Int)≤x0)=true∧decide ((x0:Int)<13)=true∧isI .i64 tb ((Int.toNat (x0))*7+1)=true∧(((A0 tb ((Int.toNat (x0))*7+1):Int)==x0)=true→decide ((0:Int)≤x0)=true∧decide ((x0:Int)<13)=true∧isB tb ((Int.toNat (x0))*7+5)=true∧(A5 tb ((Int.toNat (x0))*7+5)=true→Q .normal (L6 x0 x1 x2 x3 xb x5) ([some ⟨1,tb⟩]++(A2 sl++(O3 rc xr to sg me x0 x1 x2 x3 xb x5))))∧(A5 tb ((Int.toNat (x0))*7+5)=false→decide ((0:Int)≤x0)=true∧decide ((x0:Int)<13)=true∧(B4 tb ((Int.toNat (x0))*7+7)=true→False)∧(B4 tb ((Int.toNat (x0))*7+7)=false→J4 1 13 tb ((Int.toNat (x0))*7+7)=true∧Nat.beq (K4 tb ((Int.toNat (x0))*7+7)) (0)=true∧leB (A4 1 tb ((Int.toNat (x0))*7+7)+1) (13)=true∧rowsA sl (rp 13 sl)=true∧leB (A4 1 tb ((Int.toNat (x0))*7+7)+1) (List.length sl)=true∧okU [.agg (A1 sl (A4 1 tb ((Int.toNat (x0))*7+7)))]=true∧Q .normal (L6 x0 x1 x2 x3 xb x5) ([some ⟨1,tb⟩]++(A2 (D5 sl (A4 1 tb ((Int.toNat (x0))*7+7)) (W6 [.agg (A1 sl (A4 1 tb ((Int.toNat (x0))*7+7))),.int .i64 (sg)]))++(O3 rc xr to sg me x0 x1 x2 x3 xb x5))))))∧(((A0 tb ((Int.toNat (x0))*7+1):Int)==x0)=false→Q .normal (L6 x0 x1 x2 x3 xb x5) ([some ⟨1,tb⟩]++(A2 sl++(O3 rc xr to sg me x0 x1 x2 x3 xb x5)))))∧(decide ((x0:Int)≤12)=false→Q .normal (L6 x0 x1 x2 x3 xb x5) ([some ⟨1,tb⟩]++(A2 sl++(O3 rc xr to sg me x0 x1 x2 x3 xb x5)))))∧(decide ((x0:Int)≥1)=false→Q .normal (L6 x0 x1 x2 x3 xb x5) ([some ⟨1,tb⟩]++(A2 sl++(O3 rc xr to sg me x0 x1 x2 x3 xb x5)))))∧(A5 tb (0)=false→
 Q .normal (L6 x0 x1 x2 x3 xb x5) ([some ⟨1,tb⟩]++(A2 sl++(O3 rc xr to sg me x0 x1 x2 x3 xb x5)))))∧(((me:Int)==A0 tb ((Int.toNat (x0))*7+4))=false→Q .normal (L6 x0 x1 x2 x3 xb x5) ([some ⟨1,tb⟩]++(A2 sl++[some ⟨1,([.ptr (.rw 0) (0)]:List AV)⟩,some ⟨1,([.int .i64 (to)]:List AV)⟩,some ⟨1,([.int .i64 (sg)]:List AV)⟩,some ⟨1,([.int .i64 (me)]:List AV)⟩,some ⟨1,([.bool (st)]:List AV)⟩,some ⟨1,cT⟩,some ⟨1,([.bool (true)]:List AV)⟩,some ⟨1,([.ptr (.rw 0) (0)]:List AV)⟩,some ⟨4294967291,rc⟩,some ⟨1,xr⟩,some ⟨1,([.int .i64 (x0),.int .i64 (x1),.int .i64 (x2),.int .i64 (x3),.bool (xb),.int .i64 (x5)]:List AV)⟩])))))∧(((to:Int)==x0)=false→(((IntKind.wrap .i64 (0 - (x2)):Int)==to)=true→(xb=true→Q .normal (L6 x0 x1 x2 x3 xb x5) ([some ⟨1,tb⟩]++(A2 sl++[some ⟨1,([.ptr (.rw 0) (0)]:List AV)⟩,some ⟨1,([.int .i64 (to)]:List AV)⟩,some ⟨1,([.int .i64 (sg)]:List AV)⟩,some ⟨1,([.int .i64 (me)]:List AV)⟩,some ⟨1,([.bool (st)]:List AV)⟩,some ⟨1,cT⟩,some ⟨1,([.bool (sm)]:List AV)⟩,some ⟨1,([.ptr (.rw 0) (0)]:List AV)⟩,some ⟨4294967291,rc⟩,some ⟨1,xr⟩,some ⟨1,([.int .i64 (x0),.int .i64 (x1),.int .i64 (x2),.int .i64 (x3),.bool (xb),.int .i64 (x5)]:List AV)⟩])))∧(xb=false→(((me:Int)==0)=true→isB tb (0)=true∧(A5 tb (0)=true→(decide ((x0:Int)≥1)=true→(decide ((x0:Int)≤12)=true→decide ((0:Int)≤x0)=true∧decide ((x0:Int)<13)=true∧isI .i64 tb ((Int.toNat (x0))*7+1)=true∧(((A0 tb ((Int.toNat (x0))*7+1):Int)==x0)=true→decide ((0:Int)≤x0)=true∧decide ((x0:Int)<13)=true∧isB tb ((Int.toNat (x0))*7+5)=true∧(A5 tb ((Int.toNat (x0))*7+5)=true→Q .normal (L6 x0 x1 x2 x3 xb x5) ([some ⟨1,tb⟩]++(A2 sl++(O3 rc xr to sg me x0 x1 x2 x3 xb x5))))∧(A5 tb ((Int.toNat (x0))*7+5)=false→decide ((0:Int)≤x0)=true∧decide ((x0:Int)<13)=true∧
 (B4 tb ((Int.toNat (x0))*7+7)=true→False)∧(B4 tb ((Int.toNat (x0))*7+7)=false→J4 1 13 tb ((Int.toNat (x0))*7+7)=true∧Nat.beq (K4 tb ((Int.toNat (x0))*7+7)) (0)=true∧leB (A4 1 tb ((Int.toNat (x0))*7+7)+1) (13)=true∧rowsA sl (rp 13 sl)=true∧leB (A4 1 tb ((Int.toNat (x0))*7+7)+1) (List.length sl)=true∧okU [.agg (A1 sl (A4 1 tb ((Int.toNat (x0))*7+7)))]=true∧Q .normal (L6 x0 x1 x2 x3 xb x5) ([some ⟨1,tb⟩]++(A2 (D5 sl (A4 1 tb ((Int.toNat (x0))*7+7)) (W6 [.agg (A1 sl (A4 1 tb ((Int.toNat (x0))*7+7))),.int .i64 (sg)]))++(O3 rc xr to sg me x0 x1 x2 x3 xb x5))))))∧(((A0 tb ((Int.toNat (x0))*7+1):Int)==x0)=false→Q .normal (L6 x0 x1 x2 x3 xb x5) ([some ⟨1,tb⟩]++(A2 sl++(O3 rc xr to sg me x0 x1 x2 x3 xb x5)))))∧(decide ((x0:Int)≤12)=false→Q .normal (L6 x0 x1 x2 x3 xb x5) ([some ⟨1,tb⟩]++(A2 sl++(O3 rc xr to sg me x0 x1 x2 x3 xb x5)))))∧(decide ((x0:Int)≥1)=false→Q .normal (L6 x0 x1 x2 x3 xb x5) ([some ⟨1,tb⟩]++(A2 sl++(O3 rc xr to sg me x0 x1 x2 x3 xb x5)))))∧(A5 tb (0)=false→Q .normal (L6 x0 x1 x2 x3 xb x5) ([some ⟨1,tb⟩]++(A2 sl++(O3 rc xr to sg me x0 x1 x2 x3 xb x5)))))∧(((me:Int)==0)=false→decide ((0:Int)≤x0)=true∧decide ((x0:Int)<13)=true∧isI .i64 tb ((Int.toNat (x0))*7+4)=true∧(((me:Int)==A0 tb ((Int.toNat (x0))*7+4))=true→isB tb (0)=true∧(A5 tb (0)=true→(decide ((x0:Int)≥1)=true→(decide ((x0:Int)≤12)=true→decide ((0:Int)≤x0)=true∧decide ((x0:Int)<13)=true∧isI .i64 tb ((Int.toNat (x0))*7+1)=true∧(((A0 tb ((Int.toNat (x0))*7+1):Int)==x0)=true→decide ((0:Int)≤x0)=true∧decide ((x0:Int)<13)=true∧isB tb ((Int.toNat (x0))*7+5)=true∧(A5 tb ((Int.toNat (x0))*7+5)=true→Q .normal (L6 x0 x1 x2 x3 xb x5) ([some ⟨1,tb⟩]++(A2 sl++(O3 rc xr to sg me x0 x1 x2 x3 xb x5))))∧
 (A5 tb ((Int.toNat (x0))*7+5)=false→decide ((0:Int)≤x0)=true∧decide ((x0:Int)<13)=true∧(B4 tb ((Int.toNat (x0))*7+7)=true→False)∧(B4 tb ((Int.toNat (x0))*7+7)=false→J4 1 13 tb ((Int.toNat (x0))*7+7)=true∧Nat.beq (K4 tb ((Int.toNat (x0))*7+7)) (0)=true∧leB (A4 1 tb ((Int.toNat (x0))*7+7)+1) (13)=true∧rowsA sl (rp 13 sl)=true∧leB (A4 1 tb ((Int.toNat (x0))*7+7)+1) (List.length sl)=true∧okU [.agg (A1 sl (A4 1 tb ((Int.toNat (x0))*7+7)))]=true∧Q .normal (L6 x0 x1 x2 x3 xb x5) ([some ⟨1,tb⟩]++(A2 (D5 sl (A4 1 tb ((Int.toNat (x0))*7+7)) (W6 [.agg (A1 sl (A4 1 tb ((Int.toNat (x0))*7+7))),.int .i64 (sg)]))++(O3 rc xr to sg me x0 x1 x2 x3 xb x5))))))∧(((A0 tb ((Int.toNat (x0))*7+1):Int)==x0)=false→Q .normal (L6 x0 x1 x2 x3 xb x5) ([some ⟨1,tb⟩]++(A2 sl++(O3 rc xr to sg me x0 x1 x2 x3 xb x5)))))∧(decide ((x0:Int)≤12)=false→Q .normal (L6 x0 x1 x2 x3 xb x5) ([some ⟨1,tb⟩]++(A2 sl++(O3 rc xr to sg me x0 x1 x2 x3 xb x5)))))∧(decide ((x0:Int)≥1)=false→Q .normal (L6 x0 x1 x2 x3 xb x5) ([some ⟨1,tb⟩]++(A2 sl++(O3 rc xr to sg me x0 x1 x2 x3 xb x5)))))∧(A5 tb (0)=false→Q .normal (L6 x0 x1 x2 x3 xb x5) ([some ⟨1,tb⟩]++(A2 sl++(O3 rc xr to sg me x0 x1 x2 x3 xb x5)))))∧(((me:Int)==A0 tb ((Int.toNat (x0))*7+4))=false→Q .normal (L6 x0 x1 x2 x3 xb x5) ([some ⟨1,tb⟩]++(A2 sl++[some ⟨1,([.ptr (.rw 0) (0)]:List AV)⟩,some ⟨1,([.int .i64 (to)]:List AV)⟩,some ⟨1,([.int .i64 (sg)]:List AV)⟩,some ⟨1,([.int .i64 (me)]:List AV)⟩,some ⟨1,([.bool (st)]:List AV)⟩,some ⟨1,cT⟩,some ⟨1,([.bool (true)]:List AV)⟩,some ⟨1,([.ptr (.rw 0) (0)]:List AV)⟩,some ⟨4294967291,rc⟩,some ⟨1,xr⟩,some ⟨1,([.int .i64 (x0),.int .i64 (x1),.int .i64 (x2),.int .i64 (x3),.bool (xb),.int .i64 (x5)]:List AV)⟩]))))))∧
 (((IntKind.wrap .i64 (0 - (x2)):Int)==to)=false→Q .normal (L6 x0 x1 x2 x3 xb x5) ([some ⟨1,tb⟩]++(A2 sl++[some ⟨1,([.ptr (.rw 0) (0)]:List AV)⟩,some ⟨1,([.int .i64 (to)]:List AV)⟩,some ⟨1,([.int .i64 (sg)]:List AV)⟩,some ⟨1,([.int .i64 (me)]:List AV)⟩,some ⟨1,([.bool (st)]:List AV)⟩,some ⟨1,cT⟩,some ⟨1,([.bool (sm)]:List AV)⟩,some ⟨1,([.ptr (.rw 0) (0)]:List AV)⟩,some ⟨4294967291,rc⟩,some ⟨1,xr⟩,some ⟨1,([.int .i64 (x0),.int .i64 (x1),.int .i64 (x2),.int .i64 (x3),.bool (xb),.int .i64 (x5)]:List AV)⟩]))))):=by kernel_rfl
end Go.Am
namespace Go.Am
open Go.Proofs Crc
set_option maxRecDepth 100000
set_option maxHeartbeats 1000000
def pK:Fr:=fl 71 [6,8,11,12,13,43] [.ptr (.rw 15) 0,.int .i64 0,.ptr (.rw 18) 0,.ptr (.rw 19) 0,.ptr (.rw 20) 0,.func 76 [.ptr (.rw 21) 0]]
noncomputable def rcM (p:Nat):List AV:=rcA (loopN Try.f21 0) p pK
theorem N21_eq:loopN Try.f21 0=.rangeFunc (rgG (loopN Try.f21 0)) (Ml (loopN Try.f21 0)) (Gy (loopN Try.f21 0)) (Fi (loopN Try.f21 0)):=by kernel_rfl
theorem rcM_b (q:Nat):A8 22 (rcM q)=true:=by kernel_rfl
theorem rc_mM {m q:Nat} (h:22≤m):A8 m (rcM q)=true:=C6 h _ (rcM_b q)
def exM (to sg me:Int) (st sm:Bool) (rc:List AV):Hp:=[some ⟨1,[.ptr (.rw 0) 0]⟩,some ⟨1,[.int .i64 to]⟩,some ⟨1,[.int .i64 sg]⟩,some ⟨1,[.int .i64 me]⟩,some ⟨1,[.bool st]⟩,some ⟨1,[.func 53 [.ptr (.rw 17) 0,.ptr (.rw 14) 0,.ptr (.rw 18) 0,.ptr (.rw 16) 0]]⟩,some ⟨1,[.bool sm]⟩,some ⟨1,[.ptr (.rw 0) 0]⟩,some ⟨4294967291,rc⟩]
def Mq (s:Ptb) (to sg me:Int) (st sm:Bool) (rc:List AV):Hp:=B0 tsP s++exM to sg me st sm rc
theorem gE {s:Ptb} {to sg me:Int} {st sm:Bool} {rc:List AV}:(Mq s to sg me st sm rc).length=23:=by simp [Mq,exM,A9]
theorem hM (G:Nat→List AV) (s:Ptb) (to sg me:Int) (st sm:Bool) (rc:List AV):vHp G (X2 (.var 1 (encT 1 s)) (.var 2 (setsL encP s)) (.var 3 to) (.var 4 sg) (.var 5 me) (.var 6 st) (.var 7 sm) (.var 24 rc))=Mq s to sg me st sm rc:=by
 unfold Mq;rw [←V3 (t:=tsP) (s:=s)];rfl
theorem eV (s:Ptb) {m:Nat} (hm:14≤m):D7 m (B0 tsP s)=true:=vG.can_b s hm
theorem uA {s:Ptb} {to sg me:Int} {st sm:Bool} {q m:Nat} (h:22≤m):D7 m (Mq s to sg me st sm (rcM q))=true:=by
 unfold Mq exM;refine hpB_app (eV s (by omega)) ?_;have e:∀ i,i<22→Nat.blt i m=true:=fun i hi=>Nat.ble_eq_true_of_le (by omega);have f:∀ i,i<22→decide (i<m)=true:=fun i hi=>decide_eq_true (by omega);simp only [D7,rc_mM h,A8,bnd,Bool.and_self,Bool.and_true,f 0 (by omega),f 17 (by omega),f 14 (by omega),f 18 (by omega),f 16 (by omega)]
def kMt (x:Pc) (to:Int):Bool:=to==x.num||(-x.grp==to&&!x.en)
def X7 (x:Pc) (me:Int):Bool:=me==0||me==x.usr
def Nk (s:Ptb) (c:Nat) (to sg me:Int):Ptb:=if (kMt (s.at_ c) to&&(X7 (s.at_ c) me&&!(s.at_ c).en))=true then R7 s c (some (U1 (C1 s c) sg)) else s
theorem dgB (G:Nat→List AV) (B:Nat):I9 (⟨Try.prog,G,B⟩:A3) (Df Try.prog [(48,1,13)] [53,20,39,36] [(23,Gb N0)] [] 0) (loopsOf (Fi (loopN Try.f21 0))):=by
 rw [show loopsOf (Fi (loopN Try.f21 0))=[] by kernel_rfl];exact dgoodf (mix G B) (by kernel_rfl) (.cons (Rb (S0 G) (mP G B)) .nil) .nil
theorem De (p:Sg) (n:Int):W6 [.agg (encP p),.int .i64 n]=encP (U1 p n):=by simp only [W6,Tz,E8]
theorem y_m (G:Nat→List AV) (B:Nat) {s:Ptb} (hw:Wf s) (xr:List AV) (hx:A8 14 xr=true) (to sg me:Int) (st sm:Bool) (i:Nat) (x0 x1 x2 x3:Int) (xb:Bool) (x5:Int) (he:s.at_ i=(⟨x0,x1,x2,x3,xb,x5⟩:Pc)) (hi:x0=(i:Int)) (h1:1≤i) (h2:i≤12) :
    AYld (⟨Try.prog,G,B⟩:A3) 22 [.agg (M3 (⟨x0,x1,x2,x3,xb,x5⟩:Pc))] (Mq s to sg me st sm (rcM 0)++[some ⟨1,xr⟩]) fun v H'=>v=.bool true∧H'=Mq (Nk s i to sg me) to sg me (st||(kMt (⟨x0,x1,x2,x3,xb,x5⟩:Pc) to&&X7 (⟨x0,x1,x2,x3,xb,x5⟩:Pc) me)) (sm||kMt (⟨x0,x1,x2,x3,xb,x5⟩:Pc) to) (rcM 0)++[some ⟨1,xr⟩]:=by
  have eH:vHp G ((X2 (.var 1 (encT 1 s)) (.var 2 (setsL encP s)) (.var 3 to) (.var 4 sg) (.var 5 me) (.var 6 st) (.var 7 sm) (.var 24 (rcM 0)))++([some ⟨1,.var 23 xr⟩]:DHp))=Mq s to sg me st sm (rcM 0)++[some ⟨1,xr⟩]:=by rw [Dw,hM];rfl
  rw [← eH]
  refine AYld.dx (C:=(⟨Try.prog,G,B⟩:A3)) (K:=(Df Try.prog [(48,1,13)] [53,20,39,36] [(23,Gb N0)] [] 0)) (f1:=200) (f2:=300) (n1:=60) (n2:=60) (N:=71) (live:=[6,8,11,12,13,43,44,14]) (i:=22) (e:=4294967291) (ps:=Ml (loopN Try.f21 0)) (ac:=Gy (loopN Try.f21 0)) (bd:=Fi (loopN Try.f21 0)) (F0:=pK) (args:=[.agg (M3 (⟨x0,x1,x2,x3,xb,x5⟩:Pc))])
    (vs:=[.ptr (.rw 15) (.lit 0),.int .i64 (.lit 0),.ptr (.rw 18) (.lit 0),.ptr (.rw 19) (.lit 0),.ptr (.rw 20) (.lit 0),.func 76 [.ptr (.rw 21) (.lit 0)],.agg (.of [.int .i64 (.var 11 x0),.int .i64 (.var 12 x1),.int .i64 (.var 13 x2),.int .i64 (.var 14 x3),.bool (.var 15 xb),.int .i64 (.var 16 x5)]),.undef]) (vs1:=[.ptr (.rw 15) (.lit 0),.int .i64 (.lit 0),.ptr (.rw 18) (.lit 0),.ptr (.rw 19) (.lit 0),.ptr (.rw 20) (.lit 0),.func 76 [.ptr (.rw 21) (.lit 0)],.agg (.of [.int .i64 (.var 11 x0),.int .i64 (.var 12 x1),.int .i64 (.var 13 x2),.int .i64 (.var 14 x3),.bool (.var 15 xb),.int .i64 (.var 16 x5)]),.ptr (.rw 24) (.lit 0)])
    (H:=(X2 (.var 1 (encT 1 s)) (.var 2 (setsL encP s)) (.var 3 to) (.var 4 sg) (.var 5 me) (.var 6 st) (.var 7 sm) (.var 24 (rcM 0)))++([some ⟨1,.var 23 xr⟩]:DHp)) (H1:=(X2 (.var 1 (encT 1 s)) (.var 2 (setsL encP s)) (.var 3 to) (.var 4 sg) (.var 5 me) (.var 6 st) (.var 7 sm) (.var 24 (rcM 0)))++([some ⟨1,.var 23 xr⟩]:DHp)++([some ⟨1,(.of [.int .i64 (.var 11 x0),.int .i64 (.var 12 x1),.int .i64 (.var 13 x2),.int .i64 (.var 14 x3),.bool (.var 15 xb),.int .i64 (.var 16 x5)])⟩]:DHp)) (H2:=(X2 (.var 1 (encT 1 s)) (.var 2 (setsL encP s)) (.var 3 to) (.var 4 sg) (.var 5 me) (.var 6 st) (.var 7 sm) (.var 24 (rcM 1)))++([some ⟨1,.var 23 xr⟩]:DHp)++([some ⟨1,(.of [.int .i64 (.var 11 x0),.int .i64 (.var 12 x1),.int .i64 (.var 13 x2),.int .i64 (.var 14 x3),.bool (.var 15 xb),.int .i64 (.var 16 x5)])⟩]:DHp))
    (by rw [show loopsOf (Gy  (loopN Try.f21 0)) = [] by kernel_rfl]; exact dgoodf (mix G B) (by kernel_rfl) (.cons (Rb        (S0       G) (mP     G B)) .nil) .nil) (dgB G B) rfl rfl rfl (by kernel_rfl) (by kernel_rfl) rfl ?_ rfl (by simp [X2 ]) rfl ?_
  · have:=m_as' G (encT 1 s) (setsL encP s) (rcM 0) xr to sg me st sm x0 x1 x2 x3 xb x5 (fun ex ws H'=>ex=.normal∧ws=vVs G [.ptr (.rw 15) (.lit 0),.int .i64 (.lit 0),.ptr (.rw 18) (.lit 0),.ptr (.rw 19) (.lit 0),.ptr (.rw 20) (.lit 0),.func 76 [.ptr (.rw 21) (.lit 0)],.agg (.of [.int .i64 (.var 11 x0),.int .i64 (.var 12 x1),.int .i64 (.var 13 x2),.int .i64 (.var 14 x3),.bool (.var 15 xb),.int .i64 (.var 16 x5)]),.ptr (.rw 24) (.lit 0)]∧H'=vHp G ((X2 (.var 1 (encT 1 s)) (.var 2 (setsL encP s)) (.var 3 to) (.var 4 sg) (.var 5 me) (.var 6 st) (.var 7 sm) (.var 24 (rcM 0)))++([some ⟨1,.var 23 xr⟩]:DHp)++([some ⟨1,(.of [.int .i64 (.var 11 x0),.int .i64 (.var 12 x1),.int .i64 (.var 13 x2),.int .i64 (.var 14 x3),.bool (.var 15 xb),.int .i64 (.var 16 x5)])⟩]:DHp))) (fun _ _=>False)
    exact Eq.mpr this ⟨rfl,rfl,rfl⟩
  · have:=m_bd G (encT 1 s) (setsL encP s) (rcM 1) xr to sg me st sm x0 x1 x2 x3 xb x5 (fun ex _ H'=>H'[22]?=some (some ⟨4294967291,.rcd 1 (Ml (loopN Try.f21 0)) (Gy (loopN Try.f21 0)) (Fi (loopN Try.f21 0))::pK⟩)∧∃ H'' Gx,H'.set 22 (some ⟨4294967291,.rcd (Ib ex) (Ml (loopN Try.f21 0)) (Gy (loopN Try.f21 0)) (Fi (loopN Try.f21 0))::pK⟩)=H''++Gx∧((X2 (.var 1 (encT 1 s)) (.var 2 (setsL encP s)) (.var 3 to) (.var 4 sg) (.var 5 me) (.var 6 st) (.var 7 sm) (.var 24 (rcM 0)))++([some ⟨1,.var 23 xr⟩]:DHp)).length≤H''.length∧D7 H''.length H''=true∧
      (AV.bool (G7 ex)=.bool true∧H''=Mq (Nk s i to sg me) to sg me (st||(kMt (⟨x0,x1,x2,x3,xb,x5⟩:Pc) to&&X7 (⟨x0,x1,x2,x3,xb,x5⟩:Pc) me)) (sm||kMt (⟨x0,x1,x2,x3,xb,x5⟩:Pc) to) (rcM 0)++[some ⟨1,xr⟩])) (fun _ _=>False)
    have fin:∀ (s':Ptb) (st' sm':Bool) (l sl:List AV),l=encT 1 s'→sl=setsL encP s'→Nk s i to sg me=s'→(st||(kMt (⟨x0,x1,x2,x3,xb,x5⟩:Pc) to&&X7 (⟨x0,x1,x2,x3,xb,x5⟩:Pc) me))=st'→(sm||kMt (⟨x0,x1,x2,x3,xb,x5⟩:Pc) to)=sm'→
        ((some (⟨1,l⟩:Blk)::((List.range 13).map (fun n=>some ⟨1,A1 sl n⟩)++(exM to sg me st' sm' (rcM 1)++[some ⟨1,xr⟩,some ⟨1,M3 (⟨x0,x1,x2,x3,xb,x5⟩:Pc)⟩])))[22]?=some (some ⟨4294967291,.rcd 1 (Ml (loopN Try.f21 0)) (Gy (loopN Try.f21 0)) (Fi (loopN Try.f21 0))::pK⟩)∧∃ H'' Gx,(some (⟨1,l⟩:Blk)::((List.range 13).map (fun n=>some ⟨1,A1 sl n⟩)++(exM to sg me st' sm' (rcM 1)++[some ⟨1,xr⟩,some ⟨1,M3 (⟨x0,x1,x2,x3,xb,x5⟩:Pc)⟩]))).set 22 (some ⟨4294967291,.rcd (Ib .normal) (Ml (loopN Try.f21 0)) (Gy (loopN Try.f21 0)) (Fi (loopN Try.f21 0))::pK⟩)=H''++Gx∧((X2 (.var 1 (encT 1 s)) (.var 2 (setsL encP s)) (.var 3 to) (.var 4 sg) (.var 5 me) (.var 6 st) (.var 7 sm) (.var 24 (rcM 0)))++([some ⟨1,.var 23 xr⟩]:DHp)).length≤H''.length∧D7 H''.length H''=true∧
          (AV.bool (G7 .normal)=.bool true∧H''=Mq (Nk s i to sg me) to sg me (st||(kMt (⟨x0,x1,x2,x3,xb,x5⟩:Pc) to&&X7 (⟨x0,x1,x2,x3,xb,x5⟩:Pc) me)) (sm||kMt (⟨x0,x1,x2,x3,xb,x5⟩:Pc) to) (rcM 0)++[some ⟨1,xr⟩])):=fun s' st' sm' l sl e1 e2 e3 e4 e5=>by
      rw [e3,e4,e5];subst e1 e2;refine ⟨rfl,Mq s' to sg me st' sm' (rcM 0)++[some ⟨1,xr⟩],[some ⟨1,M3 (⟨x0,x1,x2,x3,xb,x5⟩:Pc)⟩],?_,by simp [X2,gE],?_,rfl,rfl⟩
      · unfold Mq;rw [←V3 (t:=tsP) (s:=s')];rfl
      · have hl:(Mq s' to sg me st' sm' (rcM 0)++[some (⟨1,xr⟩:Blk)]).length=24:=by simp [gE]
        rw [hl];exact hpB_app (uA (by omega)) (by simp only [D7,C6 (show 14≤24 by omega) _ hx,Bool.and_self])
    have hn:x0.toNat=i:=by omega
    have hat:s.at_ x0.toNat=(⟨x0,x1,x2,x3,xb,x5⟩:Pc):=by rw [hn];exact he
    have hi13:x0.toNat<13:=by omega
    have hgp:=hw.grp (n:=i) (by rw [he];show x0≠0;omega);rw [he] at hgp;have hgp:1≤x2∧x2≤12:=hgp;have ewr:IntKind.wrap .i64 (0 - x2)=-x2:=by rw [D9 (by omega)];omega
    have hisP:isP s x0=true:=I0.2 ⟨by omega,by omega,by rw [hat]⟩;have tu:=uV (b:=1) (s:=s) (n:=x0.toNat) hi13;rw [hat] at tu;have tu2:A0 (encT 1 s) (x0.toNat*7+4)=x3:=tu.2;rw [ewr,tu2] at this
    have nx1:kMt (⟨x0,x1,x2,x3,xb,x5⟩:Pc) to=true→X7 (⟨x0,x1,x2,x3,xb,x5⟩:Pc) me=true→xb=false→Nk s i to sg me=R7 s i (some (U1 (C1 s i) sg)):=fun h1 h2 h3=>by
      unfold Nk;rw [he,h1,h2];exact if_pos (by rw [h3];rfl)
    have nx2:(kMt (⟨x0,x1,x2,x3,xb,x5⟩:Pc) to=false∨X7 (⟨x0,x1,x2,x3,xb,x5⟩:Pc) me=false∨xb=true)→Nk s i to sg me=s:=fun h=>by
      unfold Nk;rw [he];refine if_neg fun h'=>?_;simp only [Bool.and_eq_true,Bool.not_eq_true'] at h';rcases h with h | h | h
      · rw [h] at h';exact absurd h'.1 (by simp)
      · rw [h] at h';exact absurd h'.2.1 (by simp)
      · rw [h] at h';exact absurd h'.2.2 (by simp)
    have hxb:live s x0=!xb:=by unfold live;rw [hisP,hat];rfl
    refine Eq.mpr this ?_
    refine ⟨fun h1=>(by
      have mt:kMt (⟨x0,x1,x2,x3,xb,x5⟩:Pc) to=true:=by unfold kMt;rw [show (to==x0)=true from h1];rfl
      exact ⟨fun h2=>(by
        have my:X7 (⟨x0,x1,x2,x3,xb,x5⟩:Pc) me=true:=by unfold X7;rw [h2];rfl
        exact ⟨rfl,fun _=>S8 1 (fun hl=>(by
        rw [hxb] at hl;have hb:xb=false:=by simpa using hl
        obtain ⟨p,hp⟩:=hw.live_sg hisP;obtain ⟨f1,f2,f3,f4,f5⟩:=Aa hi13 hp;have ed:C1 s x0.toNat=p:=by unfold C1;rw [hp];rfl
        refine ⟨decide_eq_true (by omega),decide_eq_true (by omega),(fun h=>by rw [f1] at h;cases h),fun _=>?_⟩;rw [f3,f4,f5];refine ⟨f2,rfl,A6.2 (by omega),D6 _ 13,A6.2 (by rw [F8];omega),O8 p,?_⟩;refine fin (R7 s x0.toNat (some (U1 (C1 s x0.toNat) sg))) true true (encT 1 s) (D5 (setsL encP s) x0.toNat (W6 [.agg (encP p),.int .i64 sg])) ?_ ?_ (by rw [hn];exact nx1 mt my hb) (by rw [mt,my];simp) (by rw [mt];simp)
        · show encV (B3 1 s) s=encV (B3 1 (R7 s x0.toNat (some (U1 (C1 s x0.toNat) sg)))) s;rw [Z9 hp]
        · rw [De,ed];exact Fe (t:=tsP) hi13)) (fun hl=>(by
        rw [hxb] at hl;have hb:xb=true:=by simpa using hl
        exact fin s true true (encT 1 s) (setsL encP s) rfl rfl (nx2 (.inr (.inr hb))) (by rw [mt,my];simp) (by rw [mt];simp))),fun h=>by cases h⟩),fun h2=>⟨decide_eq_true (by omega),decide_eq_true (by omega),tu.1,fun h3=>(by
        have my:X7 (⟨x0,x1,x2,x3,xb,x5⟩:Pc) me=true:=by unfold X7;rw [show (me==x3)=true from h3,Bool.or_true]
        exact ⟨rfl,fun _=>S8 1 (fun hl=>(by
        rw [hxb] at hl;have hb:xb=false:=by simpa using hl
        obtain ⟨p,hp⟩:=hw.live_sg hisP;obtain ⟨f1,f2,f3,f4,f5⟩:=Aa hi13 hp;have ed:C1 s x0.toNat=p:=by unfold C1;rw [hp];rfl
        refine ⟨decide_eq_true (by omega),decide_eq_true (by omega),(fun h=>by rw [f1] at h;cases h),fun _=>?_⟩;rw [f3,f4,f5];refine ⟨f2,rfl,A6.2 (by omega),D6 _ 13,A6.2 (by rw [F8];omega),O8 p,?_⟩;refine fin (R7 s x0.toNat (some (U1 (C1 s x0.toNat) sg))) true true (encT 1 s) (D5 (setsL encP s) x0.toNat (W6 [.agg (encP p),.int .i64 sg])) ?_ ?_ (by rw [hn];exact nx1 mt my hb) (by rw [mt,my];simp) (by rw [mt];simp)
        · show encV (B3 1 s) s=encV (B3 1 (R7 s x0.toNat (some (U1 (C1 s x0.toNat) sg)))) s;rw [Z9 hp]
        · rw [De,ed];exact Fe (t:=tsP) hi13)) (fun hl=>(by
        rw [hxb] at hl;have hb:xb=true:=by simpa using hl
        exact fin s true true (encT 1 s) (setsL encP s) rfl rfl (nx2 (.inr (.inr hb))) (by rw [mt,my];simp) (by rw [mt];simp))),fun h=>by cases h⟩),fun h3=>(by
        have my:X7 (⟨x0,x1,x2,x3,xb,x5⟩:Pc) me=false:=by unfold X7;rw [h2,show (me==x3)=false from h3];rfl
        exact fin s st true (encT 1 s) (setsL encP s) rfl rfl (nx2 (.inr (.inl my))) (by rw [my];simp) (by rw [mt];simp))⟩⟩),fun h1=>⟨fun h2=>⟨fun h3=>(by
        have mt:kMt (⟨x0,x1,x2,x3,xb,x5⟩:Pc) to=false:=by unfold kMt;rw [show (to==x0)=false from h1,h3];simp
        exact fin s st sm (encT 1 s) (setsL encP s) rfl rfl (nx2 (.inl mt)) (by rw [mt];simp) (by rw [mt];simp)),fun h3=>(by
        have mt:kMt (⟨x0,x1,x2,x3,xb,x5⟩:Pc) to=true:=by unfold kMt;rw [show (-x2==to)=true from h2,h3];simp
        exact ⟨fun h2=>(by
        have my:X7 (⟨x0,x1,x2,x3,xb,x5⟩:Pc) me=true:=by unfold X7;rw [h2];rfl
        exact ⟨rfl,fun _=>S8 1 (fun hl=>(by
        rw [hxb] at hl;have hb:xb=false:=by simpa using hl
        obtain ⟨p,hp⟩:=hw.live_sg hisP;obtain ⟨f1,f2,f3,f4,f5⟩:=Aa hi13 hp;have ed:C1 s x0.toNat=p:=by unfold C1;rw [hp];rfl
        refine ⟨decide_eq_true (by omega),decide_eq_true (by omega),(fun h=>by rw [f1] at h;cases h),fun _=>?_⟩;rw [f3,f4,f5];refine ⟨f2,rfl,A6.2 (by omega),D6 _ 13,A6.2 (by rw [F8];omega),O8 p,?_⟩;refine fin (R7 s x0.toNat (some (U1 (C1 s x0.toNat) sg))) true true (encT 1 s) (D5 (setsL encP s) x0.toNat (W6 [.agg (encP p),.int .i64 sg])) ?_ ?_ (by rw [hn];exact nx1 mt my hb) (by rw [mt,my];simp) (by rw [mt];simp)
        · show encV (B3 1 s) s=encV (B3 1 (R7 s x0.toNat (some (U1 (C1 s x0.toNat) sg)))) s;rw [Z9 hp]
        · rw [De,ed];exact Fe (t:=tsP) hi13)) (fun hl=>(by
        rw [hxb] at hl;have hb:xb=true:=by simpa using hl
        exact fin s true true (encT 1 s) (setsL encP s) rfl rfl (nx2 (.inr (.inr hb))) (by rw [mt,my];simp) (by rw [mt];simp))),fun h=>by cases h⟩),fun h2=>⟨decide_eq_true (by omega),decide_eq_true (by omega),tu.1,fun h3=>(by
        have my:X7 (⟨x0,x1,x2,x3,xb,x5⟩:Pc) me=true:=by unfold X7;rw [show (me==x3)=true from h3,Bool.or_true]
        exact ⟨rfl,fun _=>S8 1 (fun hl=>(by
        rw [hxb] at hl;have hb:xb=false:=by simpa using hl
        obtain ⟨p,hp⟩:=hw.live_sg hisP;obtain ⟨f1,f2,f3,f4,f5⟩:=Aa hi13 hp;have ed:C1 s x0.toNat=p:=by unfold C1;rw [hp];rfl
        refine ⟨decide_eq_true (by omega),decide_eq_true (by omega),(fun h=>by rw [f1] at h;cases h),fun _=>?_⟩;rw [f3,f4,f5];refine ⟨f2,rfl,A6.2 (by omega),D6 _ 13,A6.2 (by rw [F8];omega),O8 p,?_⟩;refine fin (R7 s x0.toNat (some (U1 (C1 s x0.toNat) sg))) true true (encT 1 s) (D5 (setsL encP s) x0.toNat (W6 [.agg (encP p),.int .i64 sg])) ?_ ?_ (by rw [hn];exact nx1 mt my hb) (by rw [mt,my];simp) (by rw [mt];simp)
        · show encV (B3 1 s) s=encV (B3 1 (R7 s x0.toNat (some (U1 (C1 s x0.toNat) sg)))) s;rw [Z9 hp]
        · rw [De,ed];exact Fe (t:=tsP) hi13)) (fun hl=>(by
        rw [hxb] at hl;have hb:xb=true:=by simpa using hl
        exact fin s true true (encT 1 s) (setsL encP s) rfl rfl (nx2 (.inr (.inr hb))) (by rw [mt,my];simp) (by rw [mt];simp))),fun h=>by cases h⟩),fun h3=>(by
        have my:X7 (⟨x0,x1,x2,x3,xb,x5⟩:Pc) me=false:=by unfold X7;rw [h2,show (me==x3)=false from h3];rfl
        exact fin s st true (encT 1 s) (setsL encP s) rfl rfl (nx2 (.inr (.inl my))) (by rw [my];simp) (by rw [mt];simp))⟩⟩)⟩,fun h2=>(by
        have mt:kMt (⟨x0,x1,x2,x3,xb,x5⟩:Pc) to=false:=by unfold kMt;rw [show (to==x0)=false from h1,show (-x2==to)=false from h2];rfl
        exact fin s st sm (encT 1 s) (setsL encP s) rfl rfl (nx2 (.inl mt)) (by rw [mt];simp) (by rw [mt];simp))⟩⟩
end Go.Am
