/-
  Processes: the program's End: trees. Processes: the program's End: what it does, its loops.
-/
import Derived.Test.YtkabjomhnddnoaaPart14
import Derived.Test.YtkabjomhnddnoaaBase10
namespace Go.Am
open Go.Proofs Crc
set_option maxRecDepth 100000
theorem e_l0 (G:Nat→List AV) (tb sl z ks:List AV) (c i:Nat) (Q:Ex→List AV→Hp→Prop) (R:AV→Hp→Prop):vT G Q R (J6 (Dc Try.prog [] [] [] 0) 300 40 14 (loopN Try.f27 0) 82 [0,6,44,45,46] [.ptr (.rw 0) (.lit 0),.int .i64 (.lit 0),.slice true (.rw 15) (.lit 0) (.var 6 c),.int .i64 (.ofN (.var 6 c)),.int .i64 (.ofN (.var 8 i))] (hp3 [some ⟨1,.var 1 tb⟩] (.var 2 sl) [some ⟨1,.var 23 z⟩,some ⟨1,.var 22 ks⟩]))=(
  (decide ((((i:Nat):Int):Int)<((c:Nat):Int))=true→decide ((0:Int)≤((i:Nat):Int))=true∧decide ((((i:Nat):Int):Int)<((c:Nat):Int))=true∧isI .i64 ks (i)=true∧decide ((0:Int)≤A0 ks (i))=true∧decide ((A0 ks (i):Int)<13)=true∧leB ((Int.toNat (A0 ks (i)))*7+3) (List.length tb)=true∧Q .normal [.ptr (.rw 0) (0),.int .i64 (0),.slice true (.rw 15) (0) (c),.int .i64 (((c:Nat):Int)),.int .i64 (IntKind.wrap .i64 (((i:Nat):Int)+1))] ([some ⟨1,(setPart tb ((Int.toNat (A0 ks (i)))*7+2) (.int .i64 (1)))⟩]++(A2 sl++[some ⟨1,z⟩,some ⟨1,ks⟩])))∧(decide ((((i:Nat):Int):Int)<((c:Nat):Int))=false→Q (.exit 0) [.ptr (.rw 0) (0),.int .i64 (0),.slice true (.rw 15) (0) (c),.int .i64 (((c:Nat):Int)),.int .i64 (((i:Nat):Int))] ([some ⟨1,tb⟩]++(A2 sl++[some ⟨1,z⟩,some ⟨1,ks⟩])))):=by kernel_rfl
theorem e_l2 (G:Nat→List AV) (tb sl z ks kt:List AV) (c i:Nat) (Q:Ex→List AV→Hp→Prop) (R:AV→Hp→Prop):vT G Q R (J6 (Dc Try.prog [] [] [] 0) 300 40 14 (loopN Try.f27 1) 82 [0,6,61,62,63] [.ptr (.rw 0) (.lit 0),.int .i64 (.lit 0),.slice true (.rw 16) (.lit 0) (.var 6 c),.int .i64 (.ofN (.var 6 c)),.int .i64 (.ofN (.var 8 i))] (hp3 [some ⟨1,.var 1 tb⟩] (.var 2 sl) [some ⟨1,.var 23 z⟩,some ⟨1,.var 22 ks⟩,some ⟨1,.var 25 kt⟩]))=(
  (decide ((((i:Nat):Int):Int)<((c:Nat):Int))=true→decide ((0:Int)≤((i:Nat):Int))=true∧decide ((((i:Nat):Int):Int)<((c:Nat):Int))=true∧isI .i64 kt (i)=true∧decide ((0:Int)≤A0 kt (i))=true∧decide ((A0 kt (i):Int)<13)=true∧isB tb ((Int.toNat (A0 kt (i)))*7+5)=true∧(A5 tb ((Int.toNat (A0 kt (i)))*7+5)=true→decide ((0:Int)≤A0 kt (i))=true∧decide ((A0 kt (i):Int)<13)=true∧leB ((Int.toNat (A0 kt (i)))*7+8) (List.length tb)=true∧Q .normal [.ptr (.rw 0) (0),.int .i64 (0),.slice true (.rw 16) (0) (c),.int .i64 (((c:Nat):Int)),.int .i64 (IntKind.wrap .i64 (((i:Nat):Int)+1))] ([some ⟨1,(setPart tb ((Int.toNat (A0 kt (i)))*7+1) (.agg ([.int .i64 (0),.int .i64 (0),.int .i64 (0),.int .i64 (0),.bool (false),.int .i64 (0),.nilp]:List AV)))⟩]++(A2 sl++[some ⟨1,z⟩,some ⟨1,ks⟩,some ⟨1,kt⟩])))∧(A5 tb ((Int.toNat (A0 kt (i)))*7+5)=false→Q .normal [.ptr (.rw 0) (0),.int .i64 (0),.slice true (.rw 16) (0) (c),.int .i64 (((c:Nat):Int)),.int .i64 (IntKind.wrap .i64 (((i:Nat):Int)+1))] ([some ⟨1,tb⟩]++(A2 sl++[some ⟨1,z⟩,some ⟨1,ks⟩,some ⟨1,kt⟩]))))∧(decide ((((i:Nat):Int):Int)<((c:Nat):Int))=false→Q (.exit 2) [.ptr (.rw 0) (0),.int .i64 (0),.slice true (.rw 16) (0) (c),.int .i64 (((c:Nat):Int)),.int .i64 (((i:Nat):Int))] ([some ⟨1,tb⟩]++(A2 sl++[some ⟨1,z⟩,some ⟨1,ks⟩,some ⟨1,kt⟩])))):=by kernel_rfl
theorem e_c (G:Nat→List AV) (k15 k14 rl rm:List AV→Bool) (tb sl z ks kt t2 t3:List AV) (n a:Int) (Q:Ex→List AV→Hp→Prop) (R:AV→Hp→Prop):vT G Q R (D0 (Df Try.prog [(48,1,13)] [36,38,39,20] [(31,kP k15 k14),(58,Bh N0)] [E5 2340 (rl) 0 82 [0,6,44,45,46] (.one (.exit 0) [.ptr (.rw 0) (.lit 0),.int .i64 (.lit 0),.undef,.undef,.undef] (hp3 [some ⟨1,.var 21 t2⟩] (.var 2 sl) [some ⟨1,.var 23 z⟩,some ⟨1,.var 22 ks⟩])),E5 2341 (rm) 2 82 [0,6,61,62,63] (.one (.exit 2) [.ptr (.rw 0) (.lit 0),.int .i64 (.lit 0),.undef,.undef,.undef] (hp3 [some ⟨1,.var 26 t3⟩] (.var 2 sl) [some ⟨1,.var 23 z⟩,some ⟨1,.var 22 ks⟩,some ⟨1,.var 25 kt⟩]))] 14) 300 40 Try.f27 [.ptr (.rw 0) (.lit 0),.int .i64 (.var 3 n),.int .i64 (.var 4 a)] (hp3 [some ⟨1,.var 1 tb⟩] (.var 2 sl) []) 15)=(
  isB tb (0)=true∧(A5 tb (0)=true→isB tb (0)=true∧A5 tb (0)=true∧(decide ((n:Int)≥1)=true→(decide ((n:Int)≤12)=true→decide ((0:Int)≤n)=true∧decide ((n:Int)<13)=true∧isI .i64 tb ((Int.toNat (n))*7+1)=true∧(((A0 tb ((Int.toNat (n))*7+1):Int)==n)=true→decide ((0:Int)≤n)=true∧decide ((n:Int)<13)=true∧isB tb ((Int.toNat (n))*7+5)=true∧(A5 tb ((Int.toNat (n))*7+5)=true→R (.int .i64 (6)) ([some ⟨1,tb⟩]++A2 sl))∧(A5 tb ((Int.toNat (n))*7+5)=false→decide ((0:Int)≤n)=true∧decide ((n:Int)<13)=true∧(B4 tb ((Int.toNat (n))*7+7)=true→False)∧(B4 tb ((Int.toNat (n))*7+7)=false→J4 1 13 tb ((Int.toNat (n))*7+7)=true∧Nat.beq (K4 tb ((Int.toNat (n))*7+7)) (0)=true∧leB (A4 1 tb ((Int.toNat (n))*7+7)+1) (13)=true∧rowsA sl (rp 13 sl)=true∧leB (A4 1 tb ((Int.toNat (n))*7+7)+1) (List.length sl)=true∧okU [.agg (A1 sl (A4 1 tb ((Int.toNat (n))*7+7)))]=true∧leB ((Int.toNat (n))*7+6) (List.length tb)=true∧leB ((Int.toNat (n))*7+7) (List.length (setPart tb ((Int.toNat (n))*7+5) (.bool (true))))=true∧leB ((Int.toNat (n))*7+8) (List.length (setPart (setPart tb ((Int.toNat (n))*7+5) (.bool (true))) ((Int.toNat (n))*7+6) (.int .i64 (W1 .i64 (a) (255)))))=true∧rowsA sl (rp 13 sl)=true∧k15 [.agg (setPart (setPart (setPart tb ((Int.toNat (n))*7+5) (.bool (true))) ((Int.toNat (n))*7+6) (.int .i64 (W1 .i64 (a) (255)))) ((Int.toNat (n))*7+7) (.ptr (.rw 14) (0))),.agg sl,.agg (Mv [.agg (A1 sl (A4 1 tb ((Int.toNat (n))*7+7)))])]=true∧
 (rl) [.agg ([.ptr (.rw 0) (0),.int .i64 (0),.slice true (.rw 15) (0) (X6 [.agg (setPart (setPart (setPart tb ((Int.toNat (n))*7+5) (.bool (true))) ((Int.toNat (n))*7+6) (.int .i64 (W1 .i64 (a) (255)))) ((Int.toNat (n))*7+7) (.ptr (.rw 14) (0))),.int .i64 (n)]),.int .i64 (((X6 [.agg (setPart (setPart (setPart tb ((Int.toNat (n))*7+5) (.bool (true))) ((Int.toNat (n))*7+6) (.int .i64 (W1 .i64 (a) (255)))) ((Int.toNat (n))*7+7) (.ptr (.rw 14) (0))),.int .i64 (n)]:Nat):Int)),.int .i64 (0)]:List AV),.agg ((Ez [.tup [.int .i64 (1),.agg (setPart (setPart (setPart tb ((Int.toNat (n))*7+5) (.bool (true))) ((Int.toNat (n))*7+6) (.int .i64 (W1 .i64 (a) (255)))) ((Int.toNat (n))*7+7) (.ptr (.rw 14) (0)))]] sl [.tup [.int .i64 (1),.agg (Mv [.agg (A1 sl (A4 1 tb ((Int.toNat (n))*7+7)))])],.tup [.int .i64 (1),.agg (En [.agg (setPart (setPart (setPart tb ((Int.toNat (n))*7+5) (.bool (true))) ((Int.toNat (n))*7+6) (.int .i64 (W1 .i64 (a) (255)))) ((Int.toNat (n))*7+7) (.ptr (.rw 14) (0))),.int .i64 (n)])]]):List AV)]=true∧isB t2 (0)=true∧(A5 t2 (0)=true→isI .i64 t2 (8)=true∧(((A0 t2 (8):Int)==1)=true→isB t2 (12)=true∧(A5 t2 (12)=true→rowsA sl (rp 13 sl)=true∧k15 [.agg t2,.agg sl,.agg z]=true∧(rm) [.agg ([.ptr (.rw 0) (0),.int .i64 (0),.slice true (.rw 16) (0) (X6 [.agg t2,.int .i64 (1)]),.int .i64 (((X6 [.agg t2,.int .i64 (1)]:Nat):Int)),.int .i64 (0)]:List AV),.agg ((Ez [.tup [.int .i64 (1),.agg t2]] sl [.tup [.int .i64 (1),.agg z],.tup [.int .i64 (1),.agg ks],.tup [.int .i64 (1),.agg (En [.agg t2,.int .i64 (1)])]]):List AV)]=true∧R (.int .i64 (0)) ([some ⟨1,t3⟩]++(A2 sl++[some ⟨1,z⟩])))∧(A5 t2 (12)=false→R (.int .i64 (0)) ([some ⟨1,t2⟩]++(A2 sl++[some ⟨1,z⟩]))))∧(((A0 t2 (8):Int)==1)=false→rowsA sl (rp 13 sl)=true∧
 k15 [.agg t2,.agg sl,.agg z]=true∧(rm) [.agg ([.ptr (.rw 0) (0),.int .i64 (0),.slice true (.rw 16) (0) (X6 [.agg t2,.int .i64 (1)]),.int .i64 (((X6 [.agg t2,.int .i64 (1)]:Nat):Int)),.int .i64 (0)]:List AV),.agg ((Ez [.tup [.int .i64 (1),.agg t2]] sl [.tup [.int .i64 (1),.agg z],.tup [.int .i64 (1),.agg ks],.tup [.int .i64 (1),.agg (En [.agg t2,.int .i64 (1)])]]):List AV)]=true∧R (.int .i64 (0)) ([some ⟨1,t3⟩]++(A2 sl++[some ⟨1,z⟩]))))∧(A5 t2 (0)=false→rowsA sl (rp 13 sl)=true∧k15 [.agg t2,.agg sl,.agg z]=true∧(rm) [.agg ([.ptr (.rw 0) (0),.int .i64 (0),.slice true (.rw 16) (0) (X6 [.agg t2,.int .i64 (1)]),.int .i64 (((X6 [.agg t2,.int .i64 (1)]:Nat):Int)),.int .i64 (0)]:List AV),.agg ((Ez [.tup [.int .i64 (1),.agg t2]] sl [.tup [.int .i64 (1),.agg z],.tup [.int .i64 (1),.agg ks],.tup [.int .i64 (1),.agg (En [.agg t2,.int .i64 (1)])]]):List AV)]=true∧R (.int .i64 (0)) ([some ⟨1,t3⟩]++(A2 sl++[some ⟨1,z⟩]))))))∧(((A0 tb ((Int.toNat (n))*7+1):Int)==n)=false→R (.int .i64 (6)) ([some ⟨1,tb⟩]++A2 sl)))∧(decide ((n:Int)≤12)=false→R (.int .i64 (6)) ([some ⟨1,tb⟩]++A2 sl)))∧(decide ((n:Int)≥1)=false→R (.int .i64 (6)) ([some ⟨1,tb⟩]++A2 sl)))∧(A5 tb (0)=false→R (.int .i64 (1)) ([some ⟨1,tb⟩]++A2 sl))):=by kernel_rfl
end Go.Am
namespace Go.Am
open Go.Proofs Crc
set_option maxRecDepth 100000
theorem V_get {p:Nat→AV} {s:Ptb} {n k:Nat} (hn:n<13) (hk:k<7):(encV p s)[n*7+(k+1)]?=some (fcell (s.at_ n) (p n) k):=by
 unfold encV;rw [show n*7+(k+1)=(n*7+k)+1 by omega,List.getElem?_cons_succ,R8 hn hk]
theorem V_num {p:Nat→AV} {s:Ptb} {n:Nat} (hn:n<13):isI .i64 (encV p s) (n*7+1)=true∧A0 (encV p s) (n*7+1)=(s.at_ n).num:=by simp [isI,A0,V_get (p:=p) (s:=s) (k:=0) hn (by omega),fcell]
theorem V_en {p:Nat→AV} {s:Ptb} {n:Nat} (hn:n<13):isB (encV p s) (n*7+5)=true∧A5 (encV p s) (n*7+5)=(s.at_ n).en:=by simp [isB,A5,V_get (p:=p) (s:=s) (k:=4) hn (by omega),fcell]
def Ph (s:Ptb) (c:Nat):Ptb:=V7 s c { s.at_ c with par:=1 }
def S3 (s:Ptb):List Nat→Ptb:=fun l=>l.foldl Ph s
def Jw (s:Ptb) (c:Nat):Ptb:=if (s.at_ c).en=true then J2 s c else s
def N2 (s:Ptb):List Nat→Ptb:=fun l=>l.foldl Jw s
theorem iC {l:List Nat} {i:Nat} (hi:i<l.length):l.take (i+1)=l.take i++[l[i]]:=by
 rw [List.take_add_one,List.getElem?_eq_getElem hi];rfl
theorem wW {s:Ptb} {l:List Nat} {i:Nat} (hi:i<l.length):S3 s (l.take (i+1))=Ph (S3 s (l.take i)) l[i]:=by
 unfold S3;rw [iC hi,List.foldl_append];rfl
theorem jK {s:Ptb} {l:List Nat} {i:Nat} (hi:i<l.length):N2 s (l.take (i+1))=Jw (N2 s (l.take i)) l[i]:=by
 unfold N2;rw [iC hi,List.foldl_append];rfl
theorem V_par {s:Ptb} {q c:Nat}:setPart (encV (ptC s q) s) (c*7+2) (.int .i64 1)=encV (ptC (Ph s c) q) (Ph s c):=
 V_set (p:=ptC s q) (n:=c) (k:=1) (s:=s) (x:={ s.at_ c with par:=1 }) (by omega) (by intro l h;cases h) fun j hj=>by
  match j,hj with
  | 0,_ | 1,_ | 2,_ | 3,_ | 4,_ | 5,_=>rfl
theorem V_free {s:Ptb} {q c:Nat} (hc:c<13):setPart (encV (ptC s q) s) (c*7+1) (.agg (P5 zc .nilp))=encV (ptC (J2 s c) q) (J2 s c):=by
 rw [uU hc];show encV _ _=encV _ _;unfold encV;congr 1;refine O1 fun a j _ _=>?_;show fcell (if a=c then zc else s.at_ a) (if a=c then .nilp else ptC s q a) j=fcell (if a=c then zc else s.at_ a) (ptC (J2 s c) q a) j;congr 1;unfold ptC;show _=match (if a=c then none else s.sg a) with | none=>AV.nilp | some _=>_
 by_cases e:a=c
 ·simp only [if_pos e]
 ·simp only [if_neg e];cases s.sg a<;>rfl
theorem aT4 (G:Nat→List AV) (B:Nat) (s:Ptb) (q:Nat) (sl z:List AV) (ks:List Nat) (hk:∀ x∈ks,x<13) (hl:ks.length≤13):AWp (⟨Try.prog,G,B⟩:A3) 14 (.loop (loopN Try.f27 0)) (fl 82 [0,6,44,45,46] [.ptr (.rw 0) 0,.int .i64 0,.slice true (.rw 15) 0 ks.length,.int .i64 (ks.length:Int),.int .i64 0]) (vHp G (hp3 [some ⟨1,.var 1 (encV (ptC s q) s)⟩] (.var 2 sl) [some ⟨1,.var 23 z⟩,some ⟨1,.var 22 (nl ks)⟩])) (lv 82 [0,6,44,45,46] (LOut.post G 14 (.one (.exit 0) [.ptr (.rw 0) (.lit 0),.int .i64 (.lit 0),.undef,.undef,.undef] (hp3 [some ⟨1,.var 21 (encV (ptC (S3 s ks) q) (S3 s ks))⟩] (.var 2 sl) [some ⟨1,.var 23 z⟩,some ⟨1,.var 22 (nl ks)⟩])))):=by
 refine Ko ks.length (fun i=>[.ptr (.rw 0) 0,.int .i64 0,.slice true (.rw 15) 0 ks.length,.int .i64 (ks.length:Int),.int .i64 (i:Int)]) (fun i=>vHp G (hp3 [some ⟨1,.var 1 (encV (ptC (S3 s (ks.take i)) q) (S3 s (ks.take i)))⟩] (.var 2 sl) [some ⟨1,.var 23 z⟩,some ⟨1,.var 22 (nl ks)⟩])) fun i hi=>?_
 refine E2 (C:=(⟨Try.prog,G,B⟩:A3)) (K:=Dc Try.prog [] [] [] 0) (dgood (mix G B) (by kernel_rfl) .nil .nil) (fuel:=300) (n0:=40) (m:=14) (c:=loopN Try.f27 0)
  (vs:=[.ptr (.rw 0) (.lit 0),.int .i64 (.lit 0),.slice true (.rw 15) (.lit 0) (.var 6 ks.length),.int .i64 (.ofN (.var 6 ks.length)),.int .i64 (.ofN (.var 8 i))]) (H:=(hp3 [some ⟨1,.var 1 (encV (ptC (S3 s (ks.take i)) q) (S3 s (ks.take i)))⟩] (.var 2 sl) [some ⟨1,.var 23 z⟩,some ⟨1,.var 22 (nl ks)⟩])) (Nat.le_of_ble_eq_true rfl) ?_
 rw [e_l0];refine ⟨fun h=>?_,fun h=>?_⟩
 ·have hlt:i<ks.length:=by have:=of_decide_eq_true h;omega
  obtain ⟨k1,k2⟩:=Yt (l:=ks) hlt;have hc:=hk _ (List.getElem_mem hlt);rw [k2,Int.toNat_natCast,V_par,D9 (by omega)];refine ⟨decide_eq_true (by omega),h,k1,decide_eq_true (by omega),decide_eq_true (by omega),A6.2 (by rw [Vb];omega),hlt,.inl ⟨rfl,?_⟩⟩;rw [wW hlt];rfl
 ·have he:i=ks.length:=by have:=of_decide_eq_false h;omega
  subst he;refine ⟨rfl,.inl ⟨by simp [wk,vVs,vV,vR,vN,vI],?_⟩⟩;rw [List.take_length];rfl
theorem aT3 (G:Nat→List AV) (B:Nat) (s:Ptb) (q:Nat) (sl z ys:List AV) (ks:List Nat) (hk:∀ x∈ks,x<13) (hl:ks.length≤13):AWp (⟨Try.prog,G,B⟩:A3) 14 (.loop (loopN Try.f27 1)) (fl 82 [0,6,61,62,63] [.ptr (.rw 0) 0,.int .i64 0,.slice true (.rw 16) 0 ks.length,.int .i64 (ks.length:Int),.int .i64 0]) (vHp G (hp3 [some ⟨1,.var 1 (encV (ptC s q) s)⟩] (.var 2 sl) [some ⟨1,.var 23 z⟩,some ⟨1,.var 22 ys⟩,some ⟨1,.var 25 (nl ks)⟩])) (lv 82 [0,6,61,62,63] (LOut.post G 14 (.one (.exit 2) [.ptr (.rw 0) (.lit 0),.int .i64 (.lit 0),.undef,.undef,.undef] (hp3 [some ⟨1,.var 26 (encV (ptC (N2 s ks) q) (N2 s ks))⟩] (.var 2 sl) [some ⟨1,.var 23 z⟩,some ⟨1,.var 22 ys⟩,some ⟨1,.var 25 (nl ks)⟩])))):=by
 refine Ko ks.length (fun i=>[.ptr (.rw 0) 0,.int .i64 0,.slice true (.rw 16) 0 ks.length,.int .i64 (ks.length:Int),.int .i64 (i:Int)]) (fun i=>vHp G (hp3 [some ⟨1,.var 1 (encV (ptC (N2 s (ks.take i)) q) (N2 s (ks.take i)))⟩] (.var 2 sl) [some ⟨1,.var 23 z⟩,some ⟨1,.var 22 ys⟩,some ⟨1,.var 25 (nl ks)⟩])) fun i hi=>?_
 refine E2 (C:=(⟨Try.prog,G,B⟩:A3)) (K:=Dc Try.prog [] [] [] 0) (dgood (mix G B) (by kernel_rfl) .nil .nil) (fuel:=300) (n0:=40) (m:=14) (c:=loopN Try.f27 1)
  (vs:=[.ptr (.rw 0) (.lit 0),.int .i64 (.lit 0),.slice true (.rw 16) (.lit 0) (.var 6 ks.length),.int .i64 (.ofN (.var 6 ks.length)),.int .i64 (.ofN (.var 8 i))]) (H:=(hp3 [some ⟨1,.var 1 (encV (ptC (N2 s (ks.take i)) q) (N2 s (ks.take i)))⟩] (.var 2 sl) [some ⟨1,.var 23 z⟩,some ⟨1,.var 22 ys⟩,some ⟨1,.var 25 (nl ks)⟩])) (Nat.le_of_ble_eq_true rfl) ?_
 rw [e_l2];refine ⟨fun h=>?_,fun h=>?_⟩
 ·have hlt:i<ks.length:=by have:=of_decide_eq_true h;omega
  obtain ⟨k1,k2⟩:=Yt (l:=ks) hlt;have hc:=hk _ (List.getElem_mem hlt);have e5:=V_en (p:=ptC (N2 s (ks.take i)) q) (s:=N2 s (ks.take i)) hc;have ef:=V_free (s:=N2 s (ks.take i)) (q:=q) hc;unfold P5 zc at ef;rw [k2,Int.toNat_natCast,e5.2,ef,D9 (by omega)];refine ⟨decide_eq_true (by omega),h,k1,decide_eq_true (by omega),decide_eq_true (by omega),e5.1,fun he=>⟨decide_eq_true (by omega),decide_eq_true (by omega),A6.2 (by rw [Vb];omega),hlt,.inl ⟨rfl,?_⟩⟩,fun he=>⟨hlt,.inl ⟨rfl,?_⟩⟩⟩
  ·rw [jK hlt,show Jw (N2 s (ks.take i)) ks[i]=J2 (N2 s (ks.take i)) ks[i] from if_pos he];rfl
  ·rw [jK hlt,show Jw (N2 s (ks.take i)) ks[i]=N2 s (ks.take i) from if_neg (by rw [he];simp)];rfl
 ·have he:i=ks.length:=by have:=of_decide_eq_false h;omega
  subst he;refine ⟨rfl,.inl ⟨by simp [wk,vVs,vV,vR,vN,vI],?_⟩⟩;rw [List.take_length];rfl
def Be (s:Ptb) (n:Nat) (a:Int):Ptb:=⟨fun j=>if j=n then { s.at_ n with en:=true,st:=a % 256 } else s.at_ j,fun j=>if j=n then some (C4 (C1 s n)) else s.sg j⟩
def B9 (s:Ptb) (n:Int) (a:Int):Ptb:=S3 (Be s n.toNat a) (kidT s n 13)
def Q7 (s:Ptb) (n:Int) (a:Int):Int×Ptb:=
 if live s n=true then (0,if live (B9 s n a) 1=true then B9 s n a else N2 (B9 s n a) (kidT (B9 s n a) 1 13)) else (6,s)
theorem Wf.endS {s:Ptb} (h:Wf s) {n:Nat} (hn:(s.at_ n).num≠0) (a:Int):Wf (Be s n a):=by
 have h1:=h.upd (c:=n) (x:={ s.at_ n with en:=true,st:=a % 256 }) hn rfl (h.grp hn) fun e=>by
  show (s.at_ n).par=0;rw [e];exact h.one.2
 have h2:=h1.updS (c:=n) (p:=C4 (C1 s n)) (by
  show (if n=n then _ else s.at_ n).num≠0
  rw [if_pos rfl];exact hn)
 exact h2
theorem nN {s:Ptb} {n:Nat} {a m:Int}:kidT (Be s n a) m 13=kidT s m 13:=by
 unfold kidT;refine List.filter_congr fun c _=>?_;unfold S5;show (decide (0<(if c=n then _ else s.at_ c).num)&&Bd m (if c=n then _ else s.at_ c).par)=_;by_cases e:c=n
 ·subst e;rw [if_pos rfl]
 ·rw [if_neg e]
theorem Wf.parL {s:Ptb} (h:Wf s):∀ {l:List Nat},(∀ c∈l,(s.at_ c).num≠0∧c≠1)→Wf (S3 s l):=by
 intro l
 induction l generalizing s with
 | nil=>intro _;exact h
 | cons c l ih=>
  intro hl;obtain ⟨h1,h2⟩:=hl c (by simp);refine ih (s:=Ph s c) (h.upd h1 rfl (h.grp h1) fun e=>absurd e h2) fun x hx=>?_;obtain ⟨g1,g2⟩:=hl x (by simp [hx]);refine ⟨?_,g2⟩;show (if x=c then _ else s.at_ x).num≠0;by_cases e:x=c
  ·subst e;rw [if_pos rfl];exact g1
  ·rw [if_neg e];exact g1
theorem Wf.endL {s:Ptb} (h:Wf s):∀ {l:List Nat},(∀ c∈l,c≠1)→Wf (N2 s l):=by
 intro l
 induction l generalizing s with
 | nil=>intro _;exact h
 | cons c l ih=>
  intro hl;refine ih (s:=Jw s c) ?_ fun x hx=>hl x (by simp [hx]);unfold Jw;split
  ·exact h.free (hl c (by simp))
  ·exact h
theorem Wf.endP {s:Ptb} (h:Wf s) {n:Int} (hl:live s n=true) (a:Int):Wf (B9 s n a):=by
 have hl':=H6.1 hl;refine (h.endS (n:=n.toNat) (by omega) a).parL fun c hc=>?_;have h1:=Ul h hc;obtain ⟨_,g2,_,_⟩:=Kx hc;refine ⟨?_,h1⟩;show (if c=n.toNat then _ else s.at_ c).num≠0;by_cases e:c=n.toNat
 ·rw [if_pos e,←e];show (s.at_ c).num≠0;omega
 ·rw [if_neg e];omega
theorem Wf.endR {s:Ptb} (h:Wf s) (n a:Int):Wf (Q7 s n a).2:=by
 unfold Go.Am.Q7;split
 ·rename_i hl;have h2:=h.endP hl a;show Wf (if live (Go.Am.B9 s n a) 1=true then Go.Am.B9 s n a else Go.Am.N2 (Go.Am.B9 s n a) (kidT (Go.Am.B9 s n a) 1 13));split
  ·exact h2
  ·exact h2.endL fun c hc=>Ul h2 hc
 ·exact h
theorem qT {s:Ptb}:∀ l:List Nat,(S3 s l).sg=s.sg:=by
 intro l
 induction l generalizing s with
 | nil=>rfl
 | cons c l ih=>exact ih (s:=Ph s c)
theorem rV {s:Ptb}:∀ (l:List Nat) (j:Nat) (p:Sg),(N2 s l).sg j=some p→s.sg j=some p:=by
 intro l
 induction l generalizing s with
 | nil=>intro j p h;exact h
 | cons c l ih=>
  intro j p h
  have:=ih (s:=Jw s c) j p h
  unfold Jw at this;split at this
  ·have h2:(if j=c then none else s.sg j)=some p:=this;split at h2
   ·cases h2
   ·exact h2
  ·exact this
end Go.Am
namespace Go.Am
open Go.Proofs Crc
set_option maxRecDepth 100000
theorem xR {s:Ptb} {n:Int}:∀ x∈kidT s n 13,x<13:=fun x hx=>(Kx hx).1
theorem dgEnd (G:Nat→List AV) (B:Nat) {s:Ptb} (n a:Int):I9 (⟨Try.prog,G,B⟩:A3) (Df Try.prog [(48,1,13)] [36,38,39,20] [(31,kidsS),(58,Bh N0)] [E5 0x924 (G5 [.ptr (.rw 0) 0,.int .i64 0,.slice true (.rw 15) 0 (kidT s n 13).length,.int .i64 ((kidT s n 13).length:Int),.int .i64 0] (vHp G (hp3 [some ⟨1,.var 1 (encV (ptC (Be s n.toNat a) n.toNat) (Be s n.toNat a))⟩] (.var 2 (setsL encP s)) [some ⟨1,.var 23 (encP (C4 (C1 s n.toNat)))⟩,some ⟨1,.var 22 (nl (kidT s n 13))⟩]))) 0 82 [0,6,44,45,46] (.one (.exit 0) [.ptr (.rw 0) (.lit 0),.int .i64 (.lit 0),.undef,.undef,.undef] (hp3 [some ⟨1,.var 21 (encV (ptC (B9 s n a) n.toNat) (B9 s n a))⟩] (.var 2 (setsL encP s)) [some ⟨1,.var 23 (encP (C4 (C1 s n.toNat)))⟩,some ⟨1,.var 22 (nl (kidT s n 13))⟩])),E5 0x925 (G5 [.ptr (.rw 0) 0,.int .i64 0,.slice true (.rw 16) 0 (kidT (B9 s n a) 1 13).length,.int .i64 ((kidT (B9 s n a) 1 13).length:Int),.int .i64 0] (vHp G (hp3 [some ⟨1,.var 1 (encV (ptC (B9 s n a) n.toNat) (B9 s n a))⟩] (.var 2 (setsL encP s)) [some ⟨1,.var 23 (encP (C4 (C1 s n.toNat)))⟩,some ⟨1,.var 22 (nl (kidT s n 13))⟩,some ⟨1,.var 25 (nl (kidT (B9 s n a) 1 13))⟩]))) 2 82 [0,6,61,62,63] (.one (.exit 2) [.ptr (.rw 0) (.lit 0),.int .i64 (.lit 0),.undef,.undef,.undef] (hp3 [some ⟨1,.var 26 (encV (ptC (N2 (B9 s n a) (kidT (B9 s n a) 1 13)) n.toNat) (N2 (B9 s n a) (kidT (B9 s n a) 1 13)))⟩] (.var 2 (setsL encP s)) [some ⟨1,.var 23 (encP (C4 (C1 s n.toNat)))⟩,some ⟨1,.var 22 (nl (kidT s n 13))⟩,some ⟨1,.var 25 (nl (kidT (B9 s n a) 1 13))⟩]))] 14) (loopsOf (bodyOf Try.f27)):=by
 refine dgoodf (mix G B) (by kernel_rfl) (.cons (nL G B) (.cons (Nw (S0 G) (qU G B)) .nil)) ?_;rw [show loopsOf (bodyOf Try.f27)=[loopN Try.f27 0,loopN Try.f27 1] by kernel_rfl];exact .cons (i:=0) (by kernel_rfl) rfl (N5 rfl (aT4 G B (Be s n.toNat a) n.toNat (setsL encP s) (encP (C4 (C1 s n.toNat))) (kidT s n 13) xR (Fu s n 13))) (.cons (i:=2) (by kernel_rfl) rfl (N5 rfl (aT3 G B (B9 s n a) n.toNat (setsL encP s) (encP (C4 (C1 s n.toNat))) (nl (kidT s n 13)) (kidT (B9 s n a) 1 13) xR (Fu _ _ 13))) .nil)
theorem aS1 (a:Int):W1 .i64 a 255=a % 256:=by
 have e:W1 .i64 a 255=(((BitVec.ofInt 64 a) &&& 255#64).toNat:Int):=by
  show IntKind.i64.wrap (((BitVec.ofInt 64 a) &&& 255#64).toNat:Int)=_
  have:=Nat.and_le_right (n:=(BitVec.ofInt 64 a).toNat) (m:=255)
  rw [BitVec.toNat_and];exact D9 (by have e:(255#64).toNat=255:=rfl;rw [e];omega)
 rw [e,BitVec.toNat_and,BitVec.toNat_ofInt];have e2:(255#64).toNat=2^8 - 1:=rfl;rw [e2,Nat.and_two_pow_sub_one_eq_mod];omega
theorem aT1 {s:Ptb} {n:Nat} {a:Int} (hn:n<13):setPart (setPart (setPart (encT 1 s) (n*7+5) (.bool true)) (n*7+6) (.int .i64 (a % 256))) (n*7+7) (.ptr (.rw 14) 0)=encV (ptC (Be s n a) n) (Be s n a):=by
 rw [Ta,V_set (p:=fun n=>H5 1 n (s.sg n)) (n:=n) (k:=4) (s:=s) (x:={ s.at_ n with en:=true }) (by omega) (by intro l h;cases h) (fun j hj=>by
  match j,hj with
  | 0,_ | 1,_ | 2,_ | 3,_ | 4,_ | 5,_=>rfl),V_set (p:=fun n=>H5 1 n (s.sg n)) (n:=n) (k:=5) (x:={ s.at_ n with en:=true,st:=a % 256 }) (by omega) (by intro l h;cases h) (fun j hj=>by
  show _=if j=5 then _ else fcell (if n=n then _ else s.at_ n) .undef j
  rw [if_pos rfl]
  match j,hj with
  | 0,_ | 1,_ | 2,_ | 3,_ | 4,_ | 5,_=>rfl),V_ptr (by intro l h;cases h)]
 unfold encV;congr 1;refine O1 fun b j _ _=>?_;show fcell (if b=n then _ else if b=n then _ else s.at_ b) (if b=n then _ else _) j=fcell (if b=n then _ else s.at_ b) (match (if b=n then some (C4 (C1 s n)) else s.sg b) with | none=>AV.nilp | some _=>AV.ptr (.rw (if b=n then 14 else 1+b)) 0) j;by_cases e:b=n
 ·subst e;simp only [if_pos]
 ·simp only [if_neg e];cases s.sg b<;>rfl
theorem rG {k:IntKind} {p:Nat→AV} {s:Ptb} {n:Int}:X6 [.agg (encV p s),.int k n]=(kidT s n 13).length:=by
 unfold X6;simp only [Ky]
theorem rH {k:IntKind} {p:Nat→AV} {s:Ptb} {n:Int}:En [.agg (encV p s),.int k n]=nl (kidT s n 13):=by
 unfold En;simp only [Ky]
theorem lZ {s s':Ptb} {n:Nat} {E:Hp} (hn:n<13) (h1:∀ j p,s'.sg j=some p→(if j=n then some (C4 (C1 s n)) else s.sg j)=some p) :
  Z3 tsP s' n 14 (some ⟨1,encV (ptC s' n) s'⟩::((List.range 13).map (fun n=>some ⟨1,A1 (setsL encP s) n⟩)++(some ⟨1,encP (C4 (C1 s n))⟩::E))):=by
 refine ⟨by simp,rfl,fun j hj=>?_⟩;by_cases e:j=n
 ·rw [if_pos e];refine ⟨_,by rw [show (14:Nat)=13+1 from rfl,List.getElem?_cons_succ,List.getElem?_append_right (by simp),List.length_map,List.length_range];rfl,fun p hp=>?_⟩
  have:=h1 j p hp
  rw [if_pos e] at this;simp only [Option.some.injEq] at this;rw [this];rfl
 ·rw [if_neg e];refine ⟨A1 (setsL encP s) j,?_,fun p hp=>?_⟩
  ·rw [Nat.add_comm 1 j,List.getElem?_cons_succ,List.getElem?_append_left (by simpa using hj),List.getElem?_map,List.getElem?_range hj];rfl
  ·have:=h1 j p hp
   rw [if_neg e] at this;rw [K9 hj,this];rfl
theorem xS {s s':Ptb} {n:Nat} {p:Sg} (hw:Wf s'):Nq [.agg (encV (ptC s' n) s'),.agg (setsL encP s),.agg (encP p)]=true:=iS.2 ⟨s',n,hw,rfl,Wb,N7 0 p⟩
theorem p_end (G:Nat→List AV) (B:Nat) {s:Ptb} (hw:Wf s) (n a:Int):ACalls (⟨Try.prog,G,B⟩:A3) 27 [.ptr (.rw 0) 0,.int .i64 n,.int .i64 a] (B0 tsP s) fun v H'=>v=.int .i64 (Q7 s n a).1∧H'=V2 tsP (Q7 s n a).2:=by
 have h:=D3 (C:=(⟨Try.prog,G,B⟩:A3)) (K:=Df Try.prog [(48,1,13)] [36,38,39,20] [(31,kidsS),(58,Bh N0)] [E5 0x924 (G5 [.ptr (.rw 0) 0,.int .i64 0,.slice true (.rw 15) 0 (kidT s n 13).length,.int .i64 ((kidT s n 13).length:Int),.int .i64 0] (vHp G (hp3 [some ⟨1,.var 1 (encV (ptC (Be s n.toNat a) n.toNat) (Be s n.toNat a))⟩] (.var 2 (setsL encP s)) [some ⟨1,.var 23 (encP (C4 (C1 s n.toNat)))⟩,some ⟨1,.var 22 (nl (kidT s n 13))⟩]))) 0 82 [0,6,44,45,46] (.one (.exit 0) [.ptr (.rw 0) (.lit 0),.int .i64 (.lit 0),.undef,.undef,.undef] (hp3 [some ⟨1,.var 21 (encV (ptC (B9 s n a) n.toNat) (B9 s n a))⟩] (.var 2 (setsL encP s)) [some ⟨1,.var 23 (encP (C4 (C1 s n.toNat)))⟩,some ⟨1,.var 22 (nl (kidT s n 13))⟩])),E5 0x925 (G5 [.ptr (.rw 0) 0,.int .i64 0,.slice true (.rw 16) 0 (kidT (B9 s n a) 1 13).length,.int .i64 ((kidT (B9 s n a) 1 13).length:Int),.int .i64 0] (vHp G (hp3 [some ⟨1,.var 1 (encV (ptC (B9 s n a) n.toNat) (B9 s n a))⟩] (.var 2 (setsL encP s)) [some ⟨1,.var 23 (encP (C4 (C1 s n.toNat)))⟩,some ⟨1,.var 22 (nl (kidT s n 13))⟩,some ⟨1,.var 25 (nl (kidT (B9 s n a) 1 13))⟩]))) 2 82 [0,6,61,62,63] (.one (.exit 2) [.ptr (.rw 0) (.lit 0),.int .i64 (.lit 0),.undef,.undef,.undef] (hp3 [some ⟨1,.var 26 (encV (ptC (N2 (B9 s n a) (kidT (B9 s n a) 1 13)) n.toNat) (N2 (B9 s n a) (kidT (B9 s n a) 1 13)))⟩] (.var 2 (setsL encP s)) [some ⟨1,.var 23 (encP (C4 (C1 s n.toNat)))⟩,some ⟨1,.var 22 (nl (kidT s n 13))⟩,some ⟨1,.var 25 (nl (kidT (B9 s n a) 1 13))⟩]))] 14) (fuel:=300) (n0:=40) (f:=27) (fn:=Try.f27) (args:=[.ptr (.rw 0) (.lit 0),.int .i64 (.var 3 n),.int .i64 (.var 4 a)]) (H:=(hp3 [some ⟨1,.var 1 (encT 1 s)⟩] (.var 2 (setsL encP s)) [])) (keep:=15)
  (R:=fun v H=>v=.int .i64 (Q7 s n a).1∧(H7 tsP (Q7 s n a).2 13 H∨∃ c,Z3 tsP (Q7 s n a).2 c 14 H∧14<H.length)) (dgEnd G B n a) (by kernel_rfl) (by kernel_rfl) (by kernel_rfl) (by
  have:=e_c G Nq Ua (G5 [.ptr (.rw 0) 0,.int .i64 0,.slice true (.rw 15) 0 (kidT s n 13).length,.int .i64 ((kidT s n 13).length:Int),.int .i64 0] (vHp G (hp3 [some ⟨1,.var 1 (encV (ptC (Be s n.toNat a) n.toNat) (Be s n.toNat a))⟩] (.var 2 (setsL encP s)) [some ⟨1,.var 23 (encP (C4 (C1 s n.toNat)))⟩,some ⟨1,.var 22 (nl (kidT s n 13))⟩]))) (G5 [.ptr (.rw 0) 0,.int .i64 0,.slice true (.rw 16) 0 (kidT (B9 s n a) 1 13).length,.int .i64 ((kidT (B9 s n a) 1 13).length:Int),.int .i64 0] (vHp G (hp3 [some ⟨1,.var 1 (encV (ptC (B9 s n a) n.toNat) (B9 s n a))⟩] (.var 2 (setsL encP s)) [some ⟨1,.var 23 (encP (C4 (C1 s n.toNat)))⟩,some ⟨1,.var 22 (nl (kidT s n 13))⟩,some ⟨1,.var 25 (nl (kidT (B9 s n a) 1 13))⟩]))) (encT 1 s) (setsL encP s) (encP (C4 (C1 s n.toNat))) (nl (kidT s n 13)) (nl (kidT (B9 s n a) 1 13)) (encV (ptC (B9 s n a) n.toNat) (B9 s n a)) (encV (ptC (N2 (B9 s n a) (kidT (B9 s n a) 1 13)) n.toNat) (N2 (B9 s n a) (kidT (B9 s n a) 1 13))) n a (fun _ _ _=>False) (fun v H=>v=.int .i64 (Q7 s n a).1∧(H7 tsP (Q7 s n a).2 13 H∨∃ c,Z3 tsP (Q7 s n a).2 c 14 H∧14<H.length))
  refine Eq.mpr this ?_;refine ⟨rfl,fun _=>⟨rfl,rfl,S8 1 (fun hl=>?_) fun hl=>?_⟩,fun h=>by cases h⟩
  ·have h:=H6.1 hl;have hi:isP s n=true:=I0.2 ⟨h.1,h.2.1,h.2.2.1⟩;obtain ⟨p,hp⟩:=hw.live_sg hi;obtain ⟨e1,e2,e3,e4,e5⟩:=Aa (by omega) hp;have ed:C1 s n.toNat=p:=by unfold C1;rw [hp];rfl
   have hne:(s.at_ n.toNat).num≠0:=by omega
   rw [e3,e4,e5,Jx,aS1,aT1 (by omega),rG,rH,nN,rG,rH];have w1:=hw.endS hne a;have w2:=hw.endP hl a;have g8:=V_num (p:=ptC (B9 s n a) n.toNat) (s:=(B9 s n a)) (n:=1) (by omega);have g12:=V_en (p:=ptC (B9 s n a) n.toNat) (s:=(B9 s n a)) (n:=1) (by omega)
   have sgs:∀ j p,(B9 s n a).sg j=some p→(if j=n.toNat then some (C4 (C1 s n.toNat)) else s.sg j)=some p:=fun j p h=>by
    have:(B9 s n a).sg=(Be s n.toNat a).sg:=qT _
    rw [this] at h;exact h
   have k15a:Nq [.agg (encV (ptC (Be s n.toNat a) n.toNat) (Be s n.toNat a)),.agg (setsL encP s),.agg (encP (Kn p 0#32))]=true:=xS w1;have k15b:Nq [.agg (encV (ptC (B9 s n a) n.toNat) (B9 s n a)),.agg (setsL encP s),.agg (encP (C4 (C1 s n.toNat)))]=true:=xS w2;have ez:encP (Kn p 0#32)=(encP (C4 (C1 s n.toNat))):=by rw [ed];rfl
   have fin2:live (B9 s n a) 1=true→(AV.int .i64 0=.int .i64 (Q7 s n a).1∧(H7 tsP (Q7 s n a).2 13 (some ⟨1,encV (ptC (B9 s n a) n.toNat) (B9 s n a)⟩::((List.range 13).map (fun n=>some ⟨1,A1 (setsL encP s) n⟩)++[some ⟨1,(encP (C4 (C1 s n.toNat)))⟩]))∨∃ c,Z3 tsP (Q7 s n a).2 c 14 (some ⟨1,encV (ptC (B9 s n a) n.toNat) (B9 s n a)⟩::((List.range 13).map (fun n=>some ⟨1,A1 (setsL encP s) n⟩)++[some ⟨1,(encP (C4 (C1 s n.toNat)))⟩]))∧14<(some (⟨1,encV (ptC (B9 s n a) n.toNat) (B9 s n a)⟩:Blk)::((List.range 13).map (fun n=>some ⟨1,A1 (setsL encP s) n⟩)++[some ⟨1,(encP (C4 (C1 s n.toNat)))⟩])).length)):=fun h2=>by
    unfold Q7;rw [if_pos hl,if_pos h2];exact ⟨rfl,.inr ⟨n.toNat,lZ (E:=[]) (by omega) sgs,by simp [A2]⟩⟩
   have fin3:live (B9 s n a) 1=false→(AV.int .i64 0=.int .i64 (Q7 s n a).1∧(H7 tsP (Q7 s n a).2 13 (some ⟨1,encV (ptC (N2 (B9 s n a) (kidT (B9 s n a) 1 13)) n.toNat) (N2 (B9 s n a) (kidT (B9 s n a) 1 13))⟩::((List.range 13).map (fun n=>some ⟨1,A1 (setsL encP s) n⟩)++[some ⟨1,(encP (C4 (C1 s n.toNat)))⟩]))∨∃ c,Z3 tsP (Q7 s n a).2 c 14 (some ⟨1,encV (ptC (N2 (B9 s n a) (kidT (B9 s n a) 1 13)) n.toNat) (N2 (B9 s n a) (kidT (B9 s n a) 1 13))⟩::((List.range 13).map (fun n=>some ⟨1,A1 (setsL encP s) n⟩)++[some ⟨1,(encP (C4 (C1 s n.toNat)))⟩]))∧14<(some (⟨1,encV (ptC (N2 (B9 s n a) (kidT (B9 s n a) 1 13)) n.toNat) (N2 (B9 s n a) (kidT (B9 s n a) 1 13))⟩:Blk)::((List.range 13).map (fun n=>some ⟨1,A1 (setsL encP s) n⟩)++[some ⟨1,(encP (C4 (C1 s n.toNat)))⟩])).length)):=fun h2=>by
    unfold Q7;rw [if_pos hl,if_neg (by rw [h2];simp)];exact ⟨rfl,.inr ⟨n.toNat,lZ (E:=[]) (by omega) (fun j p h=>sgs j p (rV _ j p h)),by simp [A2]⟩⟩
   have ll:∀ b,live (B9 s n a) 1=b→(((B9 s n a).at_ 1).num==1&&!((B9 s n a).at_ 1).en)=b:=fun b h=>by
    rw [←h];unfold live isP;rfl
   refine ⟨decide_eq_true (by omega),decide_eq_true (by omega),(fun h=>by rw [e1] at h;cases h),fun _=>⟨e2,rfl,A6.2 (by omega),D6 _ 13,A6.2 (by rw [F8];omega),O8 p,A6.2 (by rw [Q8];omega),?_,?_,D6 _ 13,k15a,?_,rfl,fun _=>⟨g8.1,fun h1=>⟨g12.1,fun h2=>⟨D6 _ 13,k15b,F5,fin3 ?_⟩,fun h2=>fin2 ?_⟩,fun h1=>⟨D6 _ 13,k15b,F5,fin3 ?_⟩⟩,fun h=>by cases h⟩⟩
   ·refine A6.2 ?_;rw [N6 (by intro l h;cases h),List.length_set,Q8];omega
   ·refine A6.2 ?_;rw [N6 (by intro l h;cases h),List.length_set,N6 (by intro l h;cases h),List.length_set,Q8];omega
   ·rw [ez];exact F5
   ·rw [g12.2] at h2;unfold live;rw [show ((B9 s n a).at_ (Int.toNat 1))=(B9 s n a).at_ 1 from rfl,h2];simp
   ·rw [g12.2] at h2;rw [g8.2] at h1;unfold live isP;rw [show ((B9 s n a).at_ (Int.toNat 1))=(B9 s n a).at_ 1 from rfl,h2]
    have:(((B9 s n a).at_ 1).num==1)=true:=h1
    rw [this];rfl
   ·rw [g8.2] at h1;unfold live isP
    have:(((B9 s n a).at_ 1).num==1)=false:=h1
    rw [show ((B9 s n a).at_ (Int.toNat 1))=(B9 s n a).at_ 1 from rfl,this];rfl
  ·unfold Q7
   rw [hl];exact ⟨rfl,.inl G1⟩)
 rw [hT] at h;exact Yo tsP_ok (q:=14) (by omega) h rfl
end Go.Am
namespace Go.Am
open Crc
def C2 (f:Ptb→Int→Int):List AV→Int:=fun vs=>match vs with
 | [.agg x,.int _ n]=>f (P7 x) n
 | _=>0
def Gw (f:Ptb→Int→Int→Int):List AV→Int:=fun vs=>match vs with
 | [.agg x,.int _ n,.int _ a]=>f (P7 x) n a
 | _=>0
def Vw (f:Ptb→Int→Int→Int→Int):List AV→Int:=fun vs=>match vs with
 | [.agg x,.int _ n,.int _ a,.int _ b]=>f (P7 x) n a b
 | _=>0
def E9 (f:Ptb→Int→Bool):List AV→Bool:=fun vs=>match vs with
 | [.agg x,.int _ n]=>f (P7 x) n
 | _=>false
def lD (f:Ptb→Int→Int→Bool):List AV→Bool:=fun vs=>match vs with
 | [.agg x,.int _ n,.int _ a]=>f (P7 x) n a
 | _=>false
def Im (f:Ptb→Int→Ptb):List AV→List AV:=fun vs=>match vs with
 | [.agg x,.int _ n]=>encX (f (P7 x) n)
 | _=>[]
def T6 (f:Ptb→Int→Int→Ptb):List AV→List AV:=fun vs=>match vs with
 | [.agg x,.int _ n,.int _ a]=>encX (f (P7 x) n a)
 | _=>[]
def Vv (f:Ptb→Int→Int→Int→Ptb):List AV→List AV:=fun vs=>match vs with
 | [.agg x,.int _ n,.int _ a,.int _ b]=>encX (f (P7 x) n a b)
 | _=>[]
def endE (s:Ptb) (n a:Int):Int:=(Q7 s n a).1
def P6 (s:Ptb) (n a:Int):Ptb:=(Q7 s n a).2
def uE (s:Ptb) (n:Int):Int:=(P0 s n).1.1
def uD (s:Ptb) (n:Int):Int:=(P0 s n).1.2
def Dm (s:Ptb) (n:Int):Ptb:=(P0 s n).2
def sF (s:Ptb) (n w:Int):Int:=(I6 s n w).1.1
def sE (s:Ptb) (n w:Int):Int:=(I6 s n w).1.2.1
def bZ (s:Ptb) (n w:Int):Bool:=(I6 s n w).1.2.2.1
def cA (s:Ptb) (n w:Int):Int:=(I6 s n w).1.2.2.2
def Lk (s:Ptb) (n w:Int):Ptb:=(I6 s n w).2
def endK:EL→List EV→Option (EV×EL):=fun x rest=>match rest with
 | [.int .i64 n,.int .i64 a]=>some (.int .i64 (.uf 2401 (Gw endE) [.agg x,.int .i64 n,.int .i64 a]),.uf 2402 (T6 P6) [.agg x,.int .i64 n,.int .i64 a])
 | _=>none
def forkK:EL→List EV→Option (EV×EL):=fun x rest=>match rest with
 | [.int .i64 n]=>some (.tup [.int .i64 (.uf 2403 (C2 uE) [.agg x,.int .i64 n]),.int .i64 (.uf 2404 (C2 uD) [.agg x,.int .i64 n])],.uf 2405 (Im Dm) [.agg x,.int .i64 n])
 | _=>none
def waitK:EL→List EV→Option (EV×EL):=fun x rest=>match rest with
 | [.int .i64 n,.int .i64 w]=>some (.tup [.int .i64 (.uf 2406 (Gw sF) [.agg x,.int .i64 n,.int .i64 w]),.int .i64 (.uf 2407 (Gw sE) [.agg x,.int .i64 n,.int .i64 w]),.bool (.uf 2408 (lD bZ) [.agg x,.int .i64 n,.int .i64 w]),.int .i64 (.uf 2409 (Gw cA) [.agg x,.int .i64 n,.int .i64 w])],.uf 2410 (T6 Lk) [.agg x,.int .i64 n,.int .i64 w])
 | _=>none
def groupK:EL→List EV→Option (EV×EL):=fun x rest=>match rest with
 | [.int .i64 n,.int .i64 a]=>some (.int .i64 (.uf 2411 (Gw Bt) [.agg x,.int .i64 n,.int .i64 a]),.uf 2412 (T6 V5) [.agg x,.int .i64 n,.int .i64 a])
 | _=>none
def userK:EL→List EV→Option (EV×EL):=fun x rest=>match rest with
 | [.int .i64 n,.int .i64 a]=>some (.int .i64 (.uf 2413 (Gw Cz) [.agg x,.int .i64 n,.int .i64 a]),.uf 2414 (T6 Y7) [.agg x,.int .i64 n,.int .i64 a])
 | _=>none
def maskK:EL→List EV→Option (EV×EL):=fun x rest=>match rest with
 | [.int .i64 n,.int .i64 a]=>some (.tup [.int .i64 (.uf 2417 (C2 Lu) [.agg x,.int .i64 n]),.int .i64 (.uf 2418 (C2 Rt) [.agg x,.int .i64 n])],.uf 2419 (T6 Em) [.agg x,.int .i64 n,.int .i64 a])
 | _=>none
def handK:EL→List EV→Option (EV×EL):=fun x rest=>match rest with
 | [.int .i64 n,.int .i64 a,.int .i64 b]=>some (.tup [.int .i64 (.uf 2420 (Vw Ep) [.agg x,.int .i64 n,.int .i64 a,.int .i64 b]),.int .i64 (.uf 2421 (Vw Er) [.agg x,.int .i64 n,.int .i64 a,.int .i64 b])],.uf 2422 (Vv Az) [.agg x,.int .i64 n,.int .i64 a,.int .i64 b])
 | _=>none
def M8 (s:Ptb) (n:Int):Int:=(Ee s n).num
def M7 (s:Ptb) (n:Int):Int:=(Ee s n).par
def M9 (s:Ptb) (n:Int):Int:=(Ee s n).grp
def M6 (s:Ptb) (n:Int):Int:=(Ee s n).usr
def M5 (s:Ptb) (n:Int):Bool:=(Ee s n).en
def M4 (s:Ptb) (n:Int):Int:=(Ee s n).st
def tellK:EL→List EV→Option (EV×EL):=fun x rest=>match rest with
 | [.int .i64 n]=>some (.tup [.agg (.of [.int .i64 (.uf 2430 (C2 M8) [.agg x,.int .i64 n]),.int .i64 (.uf 2431 (C2 M7) [.agg x,.int .i64 n]),.int .i64 (.uf 2432 (C2 M9) [.agg x,.int .i64 n]),.int .i64 (.uf 2433 (C2 M6) [.agg x,.int .i64 n]),.bool (.uf 2434 (E9 M5) [.agg x,.int .i64 n]),.int .i64 (.uf 2435 (C2 M4) [.agg x,.int .i64 n])]),.bool (.uf 2436 (E9 isP) [.agg x,.int .i64 n])],x)
 | _=>none
def livesK:EL→List EV→Option (EV×EL):=fun x rest=>match rest with
 | [.int .i64 n]=>some (.bool (.uf 2437 (E9 live) [.agg x,.int .i64 n]),x)
 | _=>none
section
variable {k:IntKind} {s:Ptb} (h:U7 s) (n a b:Int)
include h
theorem Ye (f:Ptb→Int→Int):C2 f [.agg (encX s),.int k n]=f s n:=by simp only [C2,C7 h]
theorem Yd {k':IntKind} (f:Ptb→Int→Int→Int):Gw f [.agg (encX s),.int k n,.int k' a]=f s n a:=by simp only [Gw,C7 h]
theorem fI {k' k'':IntKind} (f:Ptb→Int→Int→Int→Int):Vw f [.agg (encX s),.int k n,.int k' a,.int k'' b]=f s n a b:=by simp only [Vw,C7 h]
theorem Rx (f:Ptb→Int→Bool):E9 f [.agg (encX s),.int k n]=f s n:=by simp only [E9,C7 h]
theorem aL5 {k':IntKind} (f:Ptb→Int→Int→Bool):lD f [.agg (encX s),.int k n,.int k' a]=f s n a:=by simp only [lD,C7 h]
theorem Oc (f:Ptb→Int→Ptb):Im f [.agg (encX s),.int k n]=encX (f s n):=by simp only [Im,C7 h]
theorem Ad {k':IntKind} (f:Ptb→Int→Int→Ptb):T6 f [.agg (encX s),.int k n,.int k' a]=encX (f s n a):=by simp only [T6,C7 h]
theorem Ob {k' k'':IntKind} (f:Ptb→Int→Int→Int→Ptb):Vv f [.agg (encX s),.int k n,.int k' a,.int k'' b]=encX (f s n a b):=by simp only [Vv,C7 h]
end
def Xx (C:A3) (t:TS) (m:Th) (f:FuncId) (k:EL→List EV→Option (EV×EL)):Prop:=
 ∀ x rest v x' s,k x rest=some (v,x')→vL C.G x=encX s→Wf s→A8 0 (vVs C.G rest)=true∧bnd 0 (vV C.G v)=true∧∃ s',vL C.G x'=encX s'∧U7 s'∧(m=.same→s'=s)∧
   ACalls C f (.ptr (.rw 0) 0::vVs C.G rest) (B0 t s) fun v' H'=>v'=vV C.G v∧H'=Y6 t m s'
section
variable {C:A3} {t:TS} {f:FuncId} {m:Th}
theorem endK_ok (h:∀ s,Wf s→∀ n a,ACalls C f [.ptr (.rw 0) 0,.int .i64 n,.int .i64 a] (B0 t s) fun v H'=>v=.int .i64 (Q7 s n a).1∧H'=Y6 t m (Q7 s n a).2) (hm:m≠.same):Xx C t m f endK:=by
 intro x rest v x' s hk hx hw;unfold endK at hk;split at hk
 ·rename_i n a;simp only [Option.some.injEq,Prod.mk.injEq] at hk;obtain ⟨rfl,rfl⟩:=hk;refine ⟨by simp [vVs,vV,A8,bnd],by simp [vV,bnd],(Q7 s (vI C.G n) (vI C.G a)).2,by simp only [vL,vVs,vV,hx,Ad hw.thin];rfl,(hw.endR _ _).thin,fun e=>absurd e hm,?_⟩;simp only [vVs,vV,vI,hx,Yd hw.thin];exact h s hw _ _
 ·simp at hk
theorem forkK_ok (h:∀ s,Wf s→∀ n,ACalls C f [.ptr (.rw 0) 0,.int .i64 n] (B0 t s) fun v H'=>v=Ty (P0 s n).1∧H'=Y6 t m (P0 s n).2) (hm:m≠.same):Xx C t m f forkK:=by
 intro x rest v x' s hk hx hw;unfold forkK at hk;split at hk
 ·rename_i n;simp only [Option.some.injEq,Prod.mk.injEq] at hk;obtain ⟨rfl,rfl⟩:=hk;refine ⟨by simp [vVs,vV,A8,bnd],by simp [vV,vVs,A8,bnd],(P0 s (vI C.G n)).2,by simp only [vL,vVs,vV,hx,Oc hw.thin];rfl,(hw.forkR _).thin,fun e=>absurd e hm,?_⟩;simp only [vVs,vV,vI,hx,Ye hw.thin];exact h s hw _
 ·simp at hk
theorem waitK_ok (h:∀ s,Wf s→∀ n w,ACalls C f [.ptr (.rw 0) 0,.int .i64 n,.int .i64 w] (B0 t s) fun v H'=>v=P9 (I6 s n w).1∧H'=Y6 t m (I6 s n w).2) (hm:m≠.same):Xx C t m f waitK:=by
 intro x rest v x' s hk hx hw;unfold waitK at hk;split at hk
 ·rename_i n w;simp only [Option.some.injEq,Prod.mk.injEq] at hk;obtain ⟨rfl,rfl⟩:=hk;refine ⟨by simp [vVs,vV,A8,bnd],by simp [vV,vVs,A8,bnd],(I6 s (vI C.G n) (vI C.G w)).2,by simp only [vL,vVs,vV,hx,Ad hw.thin];rfl,(hw.waitX _ _).thin,fun e=>absurd e hm,?_⟩;simp only [vVs,vV,vI,vB,hx,Yd hw.thin,aL5 hw.thin];exact h s hw _ _
 ·simp at hk
theorem groupK_ok (h:∀ s,Wf s→∀ n a,ACalls C f [.ptr (.rw 0) 0,.int .i64 n,.int .i64 a] (B0 t s) fun v H'=>v=.int .i64 (Bt s n a)∧H'=Y6 t m (V5 s n a)) (hm:m≠.same):Xx C t m f groupK:=by
 intro x rest v x' s hk hx hw;unfold groupK at hk;split at hk
 ·rename_i n a;simp only [Option.some.injEq,Prod.mk.injEq] at hk;obtain ⟨rfl,rfl⟩:=hk;refine ⟨by simp [vVs,vV,A8,bnd],by simp [vV,bnd],V5 s (vI C.G n) (vI C.G a),by simp only [vL,vVs,vV,hx,Ad hw.thin],(hw.groupX _ _).thin,fun e=>absurd e hm,?_⟩;simp only [vVs,vV,vI,hx,Yd hw.thin];exact h s hw _ _
 ·simp at hk
theorem userK_ok (h:∀ s,Wf s→∀ n a,ACalls C f [.ptr (.rw 0) 0,.int .i64 n,.int .i64 a] (B0 t s) fun v H'=>v=.int .i64 (Cz s n a)∧H'=Y6 t m (Y7 s n a)) (hm:m≠.same):Xx C t m f userK:=by
 intro x rest v x' s hk hx hw;unfold userK at hk;split at hk
 ·rename_i n a;simp only [Option.some.injEq,Prod.mk.injEq] at hk;obtain ⟨rfl,rfl⟩:=hk;refine ⟨by simp [vVs,vV,A8,bnd],by simp [vV,bnd],Y7 s (vI C.G n) (vI C.G a),by simp only [vL,vVs,vV,hx,Ad hw.thin],(hw.userX _ _).thin,fun e=>absurd e hm,?_⟩;simp only [vVs,vV,vI,hx,Yd hw.thin];exact h s hw _ _
 ·simp at hk
theorem maskK_ok (h:∀ s,Wf s→∀ n a,ACalls C f [.ptr (.rw 0) 0,.int .i64 n,.int .i64 a] (B0 t s) fun v H'=>v=.tup [.int .i64 (Lu s n),.int .i64 (Rt s n)]∧H'=Y6 t m (Em s n a)) (hm:m≠.same):Xx C t m f maskK:=by
 intro x rest v x' s hk hx hw;unfold maskK at hk;split at hk
 ·rename_i n a;simp only [Option.some.injEq,Prod.mk.injEq] at hk;obtain ⟨rfl,rfl⟩:=hk;refine ⟨by simp [vVs,vV,A8,bnd],by simp [vV,vVs,A8,bnd],Em s (vI C.G n) (vI C.G a),by simp only [vL,vVs,vV,hx,Ad hw.thin],(hw.maskX _ _).thin,fun e=>absurd e hm,?_⟩;simp only [vVs,vV,vI,hx,Ye hw.thin];exact h s hw _ _
 ·simp at hk
theorem handK_ok (h:∀ s,Wf s→∀ n a b,ACalls C f [.ptr (.rw 0) 0,.int .i64 n,.int .i64 a,.int .i64 b] (B0 t s) fun v H'=>v=.tup [.int .i64 (Ep s n a b),.int .i64 (Er s n a b)]∧H'=Y6 t m (Az s n a b)) (hm:m≠.same):Xx C t m f handK:=by
 intro x rest v x' s hk hx hw;unfold handK at hk;split at hk
 ·rename_i n a b;simp only [Option.some.injEq,Prod.mk.injEq] at hk;obtain ⟨rfl,rfl⟩:=hk;refine ⟨by simp [vVs,vV,A8,bnd],by simp [vV,vVs,A8,bnd],Az s (vI C.G n) (vI C.G a) (vI C.G b),by simp only [vL,vVs,vV,hx,Ob hw.thin],(hw.handX _ _ _).thin,fun e=>absurd e hm,?_⟩;simp only [vVs,vV,vI,hx,fI hw.thin];exact h s hw _ _ _
 ·simp at hk
theorem tellK_ok (h:∀ s,Wf s→∀ n,ACalls C f [.ptr (.rw 0) 0,.int .i64 n] (B0 t s) fun v H'=>v=.tup [.agg (M3 (Ee s n)),.bool (isP s n)]∧H'=B0 t s):Xx C t .same f tellK:=by
 intro x rest v x' s hk hx hw;unfold tellK at hk;split at hk
 ·rename_i n;simp only [Option.some.injEq,Prod.mk.injEq] at hk;obtain ⟨rfl,rfl⟩:=hk;refine ⟨by simp [vVs,vV,A8,bnd],by simp [vV,vVs,vL,A8,bnd],s,hx,hw.thin,fun _=>rfl,?_⟩;simp only [vVs,vV,vI,vB,vL,hx,Ye hw.thin,Rx hw.thin];exact h s hw _
 ·simp at hk
theorem livesK_ok (h:∀ s,Wf s→∀ n,ACalls C f [.ptr (.rw 0) 0,.int .i64 n] (B0 t s) fun v H'=>v=.bool (live s n)∧H'=B0 t s):Xx C t .same f livesK:=by
 intro x rest v x' s hk hx hw;unfold livesK at hk;split at hk
 ·rename_i n;simp only [Option.some.injEq,Prod.mk.injEq] at hk;obtain ⟨rfl,rfl⟩:=hk;refine ⟨by simp [vVs,vV,A8,bnd],by simp [vV,bnd],s,hx,hw.thin,fun _=>rfl,?_⟩;simp only [vVs,vV,vB,hx,Rx hw.thin];exact h s hw _
 ·simp at hk
end
end Go.Am
