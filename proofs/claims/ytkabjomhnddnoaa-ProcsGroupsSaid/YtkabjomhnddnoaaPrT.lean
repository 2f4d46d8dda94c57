/-
  Processes: the program's Take.
-/
import Derived.Test.YtkabjomhnddnoaaPart15
namespace Go.Am
open Go.Proofs Crc
set_option maxRecDepth 100000
theorem t_c (G:Nat→List AV) (okP2:List AV→Bool) (xoP:List AV→List AV) (tb sl:List AV) (n:Int) (Q:Ex→List AV→Hp→Prop) (R:AV→Hp→Prop):vT G Q R (dcall (Df Try.prog [(48,1,13)] [36,38,39,20] [(66,fTakeS sideP),(27,objF 2101 okP2 xoP tsP .move endK)] [] 0) 300 40 Try.f33 [.ptr (.rw 0) (.lit 0),.int .i64 (.var 3 n)] (hp3 [some ⟨1,.var 1 tb⟩] (.var 2 sl) []) 40)=(
  isB tb (0)=true∧
 (getB tb (0)=true→
 (decide ((n:Int)≥1)=true→
 (decide ((n:Int)≤12)=true→
 decide ((0:Int)≤n)=true∧
 decide ((n:Int)<13)=true∧
 isI .i64 tb ((Int.toNat (n))*7+1)=true∧
 (((getI tb ((Int.toNat (n))*7+1):Int)==n)=true→
 decide ((0:Int)≤n)=true∧
 decide ((n:Int)<13)=true∧
 isB tb ((Int.toNat (n))*7+5)=true∧
 (getB tb ((Int.toNat (n))*7+5)=true→
 R (.tup [.agg ([.int .i64 (0),.bool (false),.int .u32 (0)]:List AV),.bool (false)]) ([some ⟨1,tb⟩]++(rows13 sl++[some ⟨1,([.int .i64 (0),.bool (false),.int .u32 (0)]:List AV)⟩])))∧
 (getB tb ((Int.toNat (n))*7+5)=false→
 decide ((0:Int)≤n)=true∧
 decide ((n:Int)<13)=true∧
 (isNilA tb ((Int.toNat (n))*7+7)=true→
 False)∧
 (isNilA tb ((Int.toNat (n))*7+7)=false→
 isPA 1 13 tb ((Int.toNat (n))*7+7)=true∧
 Nat.beq (foA tb ((Int.toNat (n))*7+7)) (0)=true∧
 leB (fkA 1 tb ((Int.toNat (n))*7+7)+1) (13)=true∧
 rowsA sl (rp 13 sl)=true∧
 leB (fkA 1 tb ((Int.toNat (n))*7+7)+1) (List.length sl)=true∧
 okU [.agg (rowA sl (fkA 1 tb ((Int.toNat (n))*7+7)))]=true∧
 (tkOkU [.agg (rowA sl (fkA 1 tb ((Int.toNat (n))*7+7)))]=true→
 (tkEndsU [.agg (rowA sl (fkA 1 tb ((Int.toNat (n))*7+7)))]=true→
 rowsA (putA sl (fkA 1 tb ((Int.toNat (n))*7+7)) (tkU [.agg (rowA sl (fkA 1 tb ((Int.toNat (n))*7+7)))])) [.agg (putA sl (fkA 1 tb ((Int.toNat (n))*7+7)) (tkU [.agg (rowA sl (fkA 1 tb ((Int.toNat (n))*7+7)))])),.agg (putA sl (fkA 1 tb ((Int.toNat (n))*7+7)) (tkU [.agg (rowA sl (fkA 1 tb ((Int.toNat (n))*7+7)))])),.agg (putA sl (fkA 1 tb ((Int.toNat (n))*7+7)) (tkU [.agg (rowA sl (fkA 1 tb ((Int.toNat (n))*7+7)))])),.agg (putA sl (fkA 1 tb ((Int.toNat (n))*7+7)) (tkU [.agg (rowA sl (fkA 1 tb ((Int.toNat (n))*7+7)))])),.agg (putA sl (fkA 1 tb ((Int.toNat (n))*7+7)) (tkU [.agg (rowA sl (fkA 1 tb ((Int.toNat (n))*7+7)))])),.agg (putA sl (fkA 1 tb ((Int.toNat (n))*7+7)) (tkU [.agg (rowA sl (fkA 1 tb ((Int.toNat (n))*7+7)))])),.agg (putA sl (fkA 1 tb ((Int.toNat (n))*7+7)) (tkU [.agg (rowA sl (fkA 1 tb ((Int.toNat (n))*7+7)))])),.agg (putA sl (fkA 1 tb ((Int.toNat (n))*7+7)) (tkU [.agg (rowA sl (fkA 1 tb ((Int.toNat (n))*7+7)))])),.agg (putA sl (fkA 1 tb ((Int.toNat (n))*7+7)) (tkU [.agg (rowA sl (fkA 1 tb ((Int.toNat (n))*7+7)))])),.agg (putA sl (fkA 1 tb ((Int.toNat (n))*7+7)) (tkU [.agg (rowA sl (fkA 1 tb ((Int.toNat (n))*7+7)))])),.agg (putA sl (fkA 1 tb ((Int.toNat (n))*7+7)) (tkU [.agg (rowA sl (fkA 1 tb ((Int.toNat (n))*7+7)))])),.agg (putA sl (fkA 1 tb ((Int.toNat (n))*7+7)) (tkU [.agg (rowA sl (fkA 1 tb ((Int.toNat (n))*7+7)))])),.agg (putA sl (fkA 1 tb ((Int.toNat (n))*7+7)) (tkU [.agg (rowA sl (fkA 1 tb ((Int.toNat (n))*7+7)))]))]=true∧
 (okP2) [.agg tb,.agg (putA sl (fkA 1 tb ((Int.toNat (n))*7+7)) (tkU [.agg (rowA sl (fkA 1 tb ((Int.toNat (n))*7+7)))]))]=true∧
 R (.tup [.agg ([.int .i64 (tkSigU [.agg (rowA sl (fkA 1 tb ((Int.toNat (n))*7+7)))]),.bool (tkEndsU [.agg (rowA sl (fkA 1 tb ((Int.toNat (n))*7+7)))]),.int .u32 (tkAtU [.agg (rowA sl (fkA 1 tb ((Int.toNat (n))*7+7)))])]:List AV),.bool (tkOkU [.agg (rowA sl (fkA 1 tb ((Int.toNat (n))*7+7)))])]) ([some ⟨1,((tabF tsP) [.int .i64 (16),.agg ((xX2 endX) [.agg ((xoP) [.agg tb,.agg (putA sl (fkA 1 tb ((Int.toNat (n))*7+7)) (tkU [.agg (rowA sl (fkA 1 tb ((Int.toNat (n))*7+7)))]))]),.int .i64 (n),.int .i64 (IntKind.wrap .i64 (128+tkSigU [.agg (rowA sl (fkA 1 tb ((Int.toNat (n))*7+7)))]))])])⟩,none,none,none,none,none,none,none,none,none,none,none,none,none,some ⟨1,([.int .i64 (tkSigU [.agg (rowA sl (fkA 1 tb ((Int.toNat (n))*7+7)))]),.bool (tkEndsU [.agg (rowA sl (fkA 1 tb ((Int.toNat (n))*7+7)))]),.int .u32 (tkAtU [.agg (rowA sl (fkA 1 tb ((Int.toNat (n))*7+7)))])]:List AV)⟩,some ⟨1,([.int .i64 (tkSigU [.agg (rowA sl (fkA 1 tb ((Int.toNat (n))*7+7)))]),.bool (tkEndsU [.agg (rowA sl (fkA 1 tb ((Int.toNat (n))*7+7)))]),.int .u32 (tkAtU [.agg (rowA sl (fkA 1 tb ((Int.toNat (n))*7+7)))])]:List AV)⟩]++setL ((xX2 endX) [.agg ((xoP) [.agg tb,.agg (putA sl (fkA 1 tb ((Int.toNat (n))*7+7)) (tkU [.agg (rowA sl (fkA 1 tb ((Int.toNat (n))*7+7)))]))]),.int .i64 (n),.int .i64 (IntKind.wrap .i64 (128+tkSigU [.agg (rowA sl (fkA 1 tb ((Int.toNat (n))*7+7)))]))])))∧
 (tkEndsU [.agg (rowA sl (fkA 1 tb ((Int.toNat (n))*7+7)))]=false→
 R (.tup [.agg ([.int .i64 (tkSigU [.agg (rowA sl (fkA 1 tb ((Int.toNat (n))*7+7)))]),.bool (tkEndsU [.agg (rowA sl (fkA 1 tb ((Int.toNat (n))*7+7)))]),.int .u32 (tkAtU [.agg (rowA sl (fkA 1 tb ((Int.toNat (n))*7+7)))])]:List AV),.bool (tkOkU [.agg (rowA sl (fkA 1 tb ((Int.toNat (n))*7+7)))])]) ([some ⟨1,tb⟩]++(rows13 (putA sl (fkA 1 tb ((Int.toNat (n))*7+7)) (tkU [.agg (rowA sl (fkA 1 tb ((Int.toNat (n))*7+7)))]))++[some ⟨1,([.int .i64 (tkSigU [.agg (rowA sl (fkA 1 tb ((Int.toNat (n))*7+7)))]),.bool (tkEndsU [.agg (rowA sl (fkA 1 tb ((Int.toNat (n))*7+7)))]),.int .u32 (tkAtU [.agg (rowA sl (fkA 1 tb ((Int.toNat (n))*7+7)))])]:List AV)⟩,some ⟨1,([.int .i64 (tkSigU [.agg (rowA sl (fkA 1 tb ((Int.toNat (n))*7+7)))]),.bool (tkEndsU [.agg (rowA sl (fkA 1 tb ((Int.toNat (n))*7+7)))]),.int .u32 (tkAtU [.agg (rowA sl (fkA 1 tb ((Int.toNat (n))*7+7)))])]:List AV)⟩]))))∧
 (tkOkU [.agg (rowA sl (fkA 1 tb ((Int.toNat (n))*7+7)))]=false→
 R (.tup [.agg ([.int .i64 (tkSigU [.agg (rowA sl (fkA 1 tb ((Int.toNat (n))*7+7)))]),.bool (tkEndsU [.agg (rowA sl (fkA 1 tb ((Int.toNat (n))*7+7)))]),.int .u32 (tkAtU [.agg (rowA sl (fkA 1 tb ((Int.toNat (n))*7+7)))])]:List AV),.bool (tkOkU [.agg (rowA sl (fkA 1 tb ((Int.toNat (n))*7+7)))])]) ([some ⟨1,tb⟩]++(rows13 (putA sl (fkA 1 tb ((Int.toNat (n))*7+7)) (tkU [.agg (rowA sl (fkA 1 tb ((Int.toNat (n))*7+7)))]))++[some ⟨1,([.int .i64 (tkSigU [.agg (rowA sl (fkA 1 tb ((Int.toNat (n))*7+7)))]),.bool (tkEndsU [.agg (rowA sl (fkA 1 tb ((Int.toNat (n))*7+7)))]),.int .u32 (tkAtU [.agg (rowA sl (fkA 1 tb ((Int.toNat (n))*7+7)))])]:List AV)⟩,some ⟨1,([.int .i64 (tkSigU [.agg (rowA sl (fkA 1 tb ((Int.toNat (n))*7+7)))]),.bool (tkEndsU [.agg (rowA sl (fkA 1 tb ((Int.toNat (n))*7+7)))]),.int .u32 (tkAtU [.agg (rowA sl (fkA 1 tb ((Int.toNat (n))*7+7)))])]:List AV)⟩]))))))∧
 (((getI tb ((Int.toNat (n))*7+1):Int)==n)=false→
 R (.tup [.agg ([.int .i64 (0),.bool (false),.int .u32 (0)]:List AV),.bool (false)]) ([some ⟨1,tb⟩]++(rows13 sl++[some ⟨1,([.int .i64 (0),.bool (false),.int .u32 (0)]:List AV)⟩]))))∧
 (decide ((n:Int)≤12)=false→
 R (.tup [.agg ([.int .i64 (0),.bool (false),.int .u32 (0)]:List AV),.bool (false)]) ([some ⟨1,tb⟩]++(rows13 sl++[some ⟨1,([.int .i64 (0),.bool (false),.int .u32 (0)]:List AV)⟩]))))∧
 (decide ((n:Int)≥1)=false→
 R (.tup [.agg ([.int .i64 (0),.bool (false),.int .u32 (0)]:List AV),.bool (false)]) ([some ⟨1,tb⟩]++(rows13 sl++[some ⟨1,([.int .i64 (0),.bool (false),.int .u32 (0)]:List AV)⟩]))))∧
 (getB tb (0)=false→
 R (.tup [.agg ([.int .i64 (0),.bool (false),.int .u32 (0)]:List AV),.bool (false)]) ([some ⟨1,tb⟩]++(rows13 sl++[some ⟨1,([.int .i64 (0),.bool (false),.int .u32 (0)]:List AV)⟩])))):=by kernel_rfl
def takeS1 (s:Ptb) (n:Int):Ptb:=updS s n.toNat (some (tkP (sgD s n.toNat)))
def takeX (s:Ptb) (n:Int):Ptb:=
 if live s n=true then (if (tkOk (sgD s n.toNat)&&tkEnds (sgD s n.toNat))=true then endX (takeS1 s n) n (128+tkSig (sgD s n.toNat)) else takeS1 s n) else s
def takeG (s:Ptb) (n:Int):Int:=if live s n=true then tkSig (sgD s n.toNat) else 0
def takeN (s:Ptb) (n:Int):Bool:=if live s n=true then tkEnds (sgD s n.toNat) else false
def takeA (s:Ptb) (n:Int):Int:=if live s n=true then tkAt (sgD s n.toNat) else 0
def takeO (s:Ptb) (n:Int):Bool:=if live s n=true then tkOk (sgD s n.toNat) else false
def takeVv (s:Ptb) (n:Int):AV:=.tup [.agg [.int .i64 (takeG s n),.bool (takeN s n),.int .u32 (takeA s n)],.bool (takeO s n)]
theorem Wf.takeS1 {s:Ptb} (h:Wf s) {n:Int} (hl:live s n=true):Wf (takeS1 s n):=by
 have hl:=live_iff.1 hl
 exact h.updS (by omega)
theorem Wf.takeX {s:Ptb} (h:Wf s) (n:Int):Wf (takeX s n):=by
 unfold Go.Am.takeX
 split
 ·rename_i hl
  split
  ·exact (h.takeS1 hl).endR _ _
  ·exact h.takeS1 hl
 ·exact h
theorem setsL_put {t:TS} {s:Ptb} {c:Nat} {q:Sg} (hc:c<13):putA (setsL t.enc s) c (t.enc q)=setsL t.enc (updS s c (some q)):=by
 unfold putA setsL
 refine List.ext_getElem? fun i=>?_
 rw [List.getElem?_set,List.length_map,List.length_range]
 by_cases e:c=i
 ·subst e
  rw [if_pos rfl,if_pos hc,List.getElem?_map,List.getElem?_range hc]
  simp only [Option.map_some]
  congr 2
  show t.enc q=blkO t.enc (if c=c then some q else s.sg c)
  rw [if_pos rfl];rfl
 ·rw [if_neg e,List.getElem?_map,List.getElem?_map]
  by_cases hi:i<13
  ·rw [List.getElem?_range hi]
   simp only [Option.map_some]
   congr 2
   show blkO t.enc (s.sg i)=blkO t.enc (if i=c then some q else s.sg i)
   rw [if_neg (fun h=>e h.symm)]
  ·rw [List.getElem?_eq_none (by simpa using hi)];rfl
theorem tkSig_range (p:Sg):0≤tkSig p∧tkSig p≤15:=by
 unfold tkSig
 have:tkN p<16:=lowest_lt _
 split<;>omega
theorem seen_B {s:Ptb} {b:Nat} {E:Hp} {H:Hp} (h0:H[0]?=some (some ⟨1,encT b s⟩)) (h1:∀ n,n<13→H[b+n]?=some (some ⟨1,blkO encP (s.sg n)⟩)):SeenB tsP s b H:=
 ⟨h0,fun n hn=>⟨_,h1 n hn,fun p hp=>by rw [hp];rfl⟩⟩
theorem pm_move3 {t:TS} (ht:TSOk t) {C:Ctx} {f:FuncId} {args:List AV} {s s':Ptb} {v:AV} {k b:Nat} (hb:14≤b) (h:ACalls C f args (can t s) fun v' H'=>v'=v∧(Seen t s' 13 (H'.take k)∨SeenB t s' b (H'.take k))) (hv:bnd 0 v=true):ACalls C f args (can t s) fun v' H'=>v'=v∧H'=mov t s':=
 h.view fun v' H' ⟨e,h2⟩=>⟨v,mov t s',⟨rfl,rfl⟩,by
  subst e;rw [can_len]
  have g:∀ {i:Nat} {b},(H'.take k)[i]?=some b→H'[i]?=some b:=fun {i b} hb=>by
   rw [List.getElem?_take] at hb
   split at hb
   ·exact hb
   ·cases hb
  rcases h2 with h2 | h2
  ·exact (h2.more.q ht 14).move ht (by omega) (fun h=>absurd rfl h) hv
  ·have h3:SeenB t s' b H':=⟨g h2.tab,fun n hn=>by
    obtain ⟨cs,q1,q2⟩:=h2.sets n hn
    exact ⟨cs,g q1,q2⟩⟩
   exact h3.move ht hb hv⟩
theorem p_takeM (G:Nat→List AV) (B:Nat) {s:Ptb} (hw:Wf s) (n:Int):ACalls (⟨Try.prog,G,B⟩:Ctx) 33 [.ptr (.rw 0) 0,.int .i64 n] (can tsP s) fun v H'=>v=takeVv s n∧H'=mov tsP (takeX s n):=by
 have hs:DSumsOk (⟨Try.prog,G,B⟩:Ctx) [(66,fTakeS sideP),(27,objF 2101 (okTF tsP) (xOf tsP) tsP .move endK)]:=
  .cons (fTakeS_ok (sideP_ok G) (p_take G B)) (.cons (objF_ok tsP_ok tsP_inj (endK_ok (fun s hw n a=>p_end G B hw n a) (by intro h;cases h))) .nil)
 have h:=dcall_ok (C:=(⟨Try.prog,G,B⟩:Ctx)) (K:=Df Try.prog [(48,1,13)] [36,38,39,20] [(66,fTakeS sideP),(27,objF 2101 (okTF tsP) (xOf tsP) tsP .move endK)] [] 0) (fuel:=300) (n0:=40) (f:=33) (fn:=Try.f33) (args:=[.ptr (.rw 0) (.lit 0),.int .i64 (.var 3 n)]) (H:=(hp3 [some ⟨1,.var 1 (encT 1 s)⟩] (.var 2 (setsL encP s)) [])) (keep:=40)
  (R:=fun v H=>v=takeVv s n∧(Seen tsP (takeX s n) 13 (H.take 14)∨SeenB tsP (takeX s n) 16 H)) (dgM (B:=B) (by kernel_rfl) hs) (by kernel_rfl) (by kernel_rfl) (by kernel_rfl) (by
  have:=t_c G (okTF tsP) (xOf tsP) (encT 1 s) (setsL encP s) n (fun _ _ _=>False) (fun v H=>v=takeVv s n∧(Seen tsP (takeX s n) 13 (H.take 14)∨SeenB tsP (takeX s n) 16 H))
  refine Eq.mpr this ?_
  refine ⟨rfl,fun _=>live_tree 1 (fun hl=>?_) fun hl=>?_,fun h=>by cases h⟩
  ·have h:=live_iff.1 hl
   have hi:isP s n=true:=isP_iff.2 ⟨h.1,h.2.1,h.2.2.1⟩
   obtain ⟨p,hp⟩:=hw.live_sg hi
   obtain ⟨e1,e2,e3,e4,e5⟩:=fam_facts (by omega) hp
   have ed:sgD s n.toNat=p:=by unfold sgD;rw [hp];rfl
   have w1:=hw.takeS1 hl
   have es:putA (setsL encP s) n.toNat (encP (tkP p))=setsL encP (takeS1 s n):=by
    unfold takeS1
    rw [ed]
    exact setsL_put (t:=tsP) (by omega)
   have et:encT 1 s=tsP.tb (ptrs 1 (takeS1 s n)) (takeS1 s n):=by
    show encV (ptrs 1 s) s=encV (ptrs 1 (takeS1 s n)) (takeS1 s n)
    unfold takeS1
    rw [ptrs_updS hp];rfl
   have ex:xOf tsP [.agg (encT 1 s),.agg (setsL encP (takeS1 s n))]=encX (takeS1 s n):=by
    rw [et];exact xOf_enc tsP_inj w1
   have hsg:=tkSig_range p
   rw [e3,e4,e5,tkOkU_enc,tkEndsU_enc,tkSigU_enc,tkAtU_enc,tkU_enc,es,ex,i64_in (by omega),xX2_enc w1.thin]
   have hv:takeVv s n=.tup [.agg [.int .i64 (tkSig p),.bool (tkEnds p),.int .u32 (tkAt p)],.bool (tkOk p)]:=by
    unfold takeVv takeG takeN takeA takeO
    rw [if_pos hl,if_pos hl,if_pos hl,if_pos hl,ed]
   have sst:takeX s n=takeS1 s n→Seen tsP (takeX s n) 13 (some ⟨1,encT 1 s⟩::(List.range 13).map fun j=>some ⟨1,rowA (setsL encP (takeS1 s n)) j⟩):=fun e=>by
    rw [e]
    refine seen_rows (t:=tsP) et tsP_ok ?_
    intro j hj q hq
    rw [rowA_sets hj,hq];rfl
   refine ⟨decide_eq_true (by omega),decide_eq_true (by omega),(fun h=>by rw [e1] at h;cases h),fun _=>⟨e2,rfl,leB_iff.2 (by omega),rowsA_same _ 13,leB_iff.2 (by rw [setsL_len];omega),okU_enc p,fun ho=>⟨fun hn=>⟨rowsA_same _ 13,okTF_iff.2 ⟨_,w1,et,rfl⟩,hv.symm,.inr ?_⟩,fun hn=>⟨hv.symm,.inl ?_⟩⟩,fun ho=>⟨hv.symm,.inl ?_⟩⟩⟩
   ·have eX:takeX s n=endX (takeS1 s n) n (128+tkSig p):=by
     unfold takeX
     rw [if_pos hl,ed,ho,hn];rfl
    rw [eX]
    have we:Wf (endX (takeS1 s n) n (128+tkSig p)):=w1.endR _ _
    generalize endX (takeS1 s n) n (128+tkSig p)=s9 at we
    refine seen_B (E:=[]) ?_ fun j hj=>?_
    ·show some (some (⟨1,tabF tsP [.int .i64 16,.agg (encX s9)]⟩:Blk))=_
     simp only [tabF,decX_enc we.thin];rfl
    ·have e9:∀ j,setF tsP j [.agg (encX s9)]=blkO encP (s9.sg j):=fun j=>by simp only [setF,decX_enc we.thin];rfl
     match j,hj with
     | 0,_ | 1,_ | 2,_ | 3,_ | 4,_ | 5,_ | 6,_ | 7,_ | 8,_ | 9,_ | 10,_ | 11,_ | 12,_=>exact congrArg (fun l=>some (some (⟨1,l⟩:Blk))) (e9 _)
   ·refine sst ?_
    unfold takeX
    rw [if_pos hl,ed,ho,hn];rfl
   ·refine sst ?_
    unfold takeX
    rw [if_pos hl,ed,ho];rfl
  ·have hv:takeVv s n=.tup [.agg [.int .i64 0,.bool false,.int .u32 0],.bool false]:=by
    unfold takeVv takeG takeN takeA takeO
    rw [hl];rfl
   have hx:takeX s n=s:=by unfold takeX;rw [hl];rfl
   rw [hx]
   exact ⟨hv.symm,.inl seen_same⟩)
 rw [hT] at h
 refine pm_move3 tsP_ok (k:=40) (b:=16) (by omega) (h.monoK fun v H ⟨a,b⟩=>⟨a,b.imp (fun b=>b.more) id⟩) rfl
end Go.Am
