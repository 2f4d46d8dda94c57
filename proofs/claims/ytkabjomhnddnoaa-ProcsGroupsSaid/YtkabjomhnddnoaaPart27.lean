/-
  Objects laid one behind the other; views of them, wherever they stand. Processes: a step of a law, on both sides.
-/
import Derived.Test.YtkabjomhnddnoaaPart26
import Derived.Test.YtkabjomhnddnoaaPart22
namespace Go.Am
open Crc
variable {C:Ctx}
structure AtO (t:TS) (s:Ptb) (i b:Nat) (H:Hp):Prop where
 tab:H[i]?=some (some ⟨1,t.tb (ptrs b s) s⟩)
 sets:∀ n,n<13→H[b+n]?=some (some ⟨1,blkO t.enc (s.sg n)⟩)
theorem AtO.more {t:TS} {s:Ptb} {i b k:Nat} {H:Hp} (h:AtO t s i b (H.take k)):AtO t s i b H:=by
 have g:∀ {i:Nat} {b},(H.take k)[i]?=some b→H[i]?=some b:=fun {i b} hb=>by
  rw [List.getElem?_take] at hb
  split at hb
  ·exact hb
  ·cases hb
 exact ⟨g h.tab,fun n hn=>g (h.sets n hn)⟩
theorem AtO.word {t:TS} {s:Ptb} {i b:Nat} {H:Hp} {X:List AV} (hX:X=encX s) (hs:thin s) (h0:H[i]?=some (some ⟨1,tabF t [.int .i64 (b:Int),.agg X]⟩)) (h1:∀ n,n<13→H[b+n]?=some (some ⟨1,setF t n [.agg X]⟩)):AtO t s i b H:=by
 subst hX
 refine ⟨?_,fun n hn=>?_⟩
 ·rw [h0]
  simp only [tabF,decX_enc hs,Int.toNat_natCast]
 ·rw [h1 n hn]
  simp only [setF,decX_enc hs]
def objs:Nat→List (TS×Ptb)→Hp
 | _,[]=>[]
 | L,o::os=>canB o.1 (ptrs (L+1) o.2) o.2 o.2++objs (L+14) os
theorem objs_len:∀ (os:List (TS×Ptb)) (L:Nat),(objs L os).length=14*os.length
 | [],L=>rfl
 | o::os,L=>by simp only [objs,List.length_append,canB_len,objs_len os,List.length_cons];omega
def flatP:List (Nat×Nat)→List Nat
 | []=>[]
 | p::pl=>thO p.1 p.2++flatP pl
theorem flatP_len:∀ pl:List (Nat×Nat),(flatP pl).length=14*pl.length
 | []=>rfl
 | p::pl=>by simp only [flatP,List.length_append,thO_len,flatP_len pl,List.length_cons];omega
def PlO:List (TS×Ptb)→List (Nat×Nat)→Hp→Prop
 | [],[],_=>True
 | o::os,p::pl,H=>TSOk o.1∧AtO o.1 o.2 p.1 p.2 H∧PlO os pl H
 | _,_,_=>False
theorem PlO.len:∀ {os:List (TS×Ptb)} {pl:List (Nat×Nat)} {H:Hp},PlO os pl H→os.length=pl.length
 | [],[],_,_=>rfl
 | _::os,_::pl,H,h=>by simp only [List.length_cons,PlO.len (os:=os) (pl:=pl) h.2.2]
 | [],_::_,_,h=>h.elim
 | _::_,[],_,h=>h.elim
theorem PlO.lt:∀ {os:List (TS×Ptb)} {pl:List (Nat×Nat)} {H:Hp},PlO os pl H→∀ j∈flatP pl,j<H.length
 | [],[],_,_=>fun j h=>by simp [flatP] at h
 | o::os,p::pl,H,h=>fun j hj=>by
  simp only [flatP,List.mem_append] at hj
  rcases hj with hj | hj
  ·unfold thO at hj
   rcases List.mem_cons.1 hj with rfl | hj
   ·exact (List.getElem?_eq_some_iff.1 h.2.1.tab).1
   ·obtain ⟨n,hn,rfl⟩:=List.mem_map.1 hj
    exact (List.getElem?_eq_some_iff.1 (h.2.1.sets n (List.mem_range.1 hn))).1
  ·exact PlO.lt h.2.2 j hj
 | [],_::_,_,h=>h.elim
 | _::_,[],_,h=>h.elim
theorem objs_blk {θ:List Nat} {H:Hp}:∀ {os:List (TS×Ptb)} {pl:List (Nat×Nat)} {L:Nat},PlO os pl H→(∀ k,k<14*os.length→θ.getD (L+k) 0=(flatP pl).getD k 0)→L+14*os.length≤θ.length→
  ∀ (k:Nat) b,(objs L os)[k]?=some b→∃ b0,b=some b0∧H[(flatP pl).getD k 0]?=some (some (renB θ b0))∧bnds θ.length b0.cells=true∧isRec b0=false
 | [],[],L,_,_,_=>fun k b hb=>by simp [objs] at hb
 | o::os,p::pl,L,h,hθ,hl=>fun k b hb=>by
  obtain ⟨ht,hA,hr⟩:=h
  simp only [List.length_cons] at hθ hl
  simp only [objs] at hb
  have hi:θ.getD L 0=p.1:=by
   have:=hθ 0 (by omega)
   simpa [flatP,thO] using this
  have hs:∀ n,n<13→θ.getD (L+1+n) 0=p.2+n:=fun n hn=>by
   have:=hθ (1+n) (by omega)
   rw [show L+1+n=L+(1+n) by omega,this]
   simp only [flatP,List.getD]
   rw [List.getElem?_append_left (by rw [thO_len];omega)]
   exact thO_get hn
  by_cases hk:k<14
  ·rw [List.getElem?_append_left (by rw [canB_len];exact hk)] at hb
   have eg:(flatP (p::pl)).getD k 0=(thO p.1 p.2).getD k 0:=by
    simp only [flatP,List.getD]
    rw [List.getElem?_append_left (by rw [thO_len];exact hk)]
   rw [eg]
   cases k with
   | zero=>
    rw [canB_get0] at hb
    simp only [Option.some.injEq] at hb
    subst hb
    refine ⟨_,rfl,?_,ht.bnd _ (ptrs (L+1) o.2) o.2 fun n hn=>bnd_ptrs' (by omega),rfl⟩
    show H[p.1]?=_
    rw [hA.tab]
    simp only [renB]
    rw [ren_tab ht (b:=L+1) (b':=p.2) hs]
   | succ n=>
    rw [canB_get (by omega)] at hb
    simp only [Option.some.injEq] at hb
    subst hb
    refine ⟨_,rfl,?_,blkO_bnd ht _ _,rfl⟩
    rw [show n+1=1+n by omega,thO_get (by omega),hA.sets n (by omega)]
    simp only [renB,rens_flat' ht]
  ·obtain ⟨k,rfl⟩:∃ k',k=14+k':=⟨k - 14,by omega⟩
   rw [List.getElem?_append_right (by rw [canB_len];omega),canB_len,Nat.add_sub_cancel_left] at hb
   have eg:∀ k,(flatP (p::pl)).getD (14+k) 0=(flatP pl).getD k 0:=fun k=>by
    simp only [flatP,List.getD]
    rw [List.getElem?_append_right (by rw [thO_len];omega),thO_len,Nat.add_sub_cancel_left]
   rw [eg]
   refine objs_blk (L:=L+14) hr (fun k hk=>?_) (by omega) k b hb
   have:=hθ (14+k) (by omega)
   rw [eg] at this
   rw [←this];congr 1;omega
 | [],_::_,_,h,_,_=>h.elim
 | _::_,[],_,h,_,_=>h.elim
theorem View.objs {m:Nat} {F F':Fr} {os:List (TS×Ptb)} {pl:List (Nat×Nat)} {H':Hp} (hm:m≤H'.length) (hp:PlO os pl H') (nd:nodupB (flatP pl)=true) (hF:bnds (m+14*os.length) F=true) (hF':wk (rens (List.range m++flatP pl) F) F') :
  View m F (List.replicate m none++Go.Am.objs m os) F' H':=by
 have nd:=nodupB_ok nd
 have hlen:=hp.len
 have lθ:(List.range m++flatP pl).length=m+14*os.length:=by rw [List.length_append,List.length_range,flatP_len,hlen]
 have lH:(List.replicate m none++Go.Am.objs m os).length=m+14*os.length:=by rw [List.length_append,List.length_replicate,objs_len]
 have lo:∀ i,i<m→(List.range m++flatP pl).getD i 0=i:=fun i hi=>by
  simp only [List.getD]
  rw [List.getElem?_append_left (by simpa using hi)];simp [hi]
 have up:∀ k,(List.range m++flatP pl).getD (m+k) 0=(flatP pl).getD k 0:=fun k=>by
  simp only [List.getD]
  rw [List.getElem?_append_right (by simp),List.length_range,Nat.add_sub_cancel_left]
 have lv:∀ (i:Nat) b,(List.replicate m none++Go.Am.objs m os)[i]?=some (some b)→∃ k,i=m+k∧k<14*os.length∧(Go.Am.objs m os)[k]?=some (some b):=fun i b hb=>by
  have hi:=(List.getElem?_eq_some_iff.1 hb).1
  rw [lH] at hi
  by_cases h:i<m
  ·rw [List.getElem?_append_left (by simpa using h),List.getElem?_replicate,if_pos h] at hb;cases hb
  ·rw [List.getElem?_append_right (by simp;omega),List.length_replicate] at hb
   exact ⟨i - m,by omega,by omega,hb⟩
 refine ⟨List.range m++flatP pl,by rw [lθ,lH],by rw [lH];omega,lo,fun i hi=>?_,fun i j b b' h1 h2 he=>?_,fun i b hb=>?_,by rw [←wk_length hF',rens_eq];simp,fun k v hk=>?_⟩
 ·rw [lθ] at hi
  by_cases h:i<m
  ·rw [lo i h];omega
  ·obtain ⟨k,rfl⟩:∃ k,i=m+k:=⟨i - m,by omega⟩
   rw [up]
   refine hp.lt _ ?_
   have hk:k<(flatP pl).length:=by rw [flatP_len,←hlen];omega
   simp only [List.getD,List.getElem?_eq_getElem hk,Option.getD_some]
   exact List.getElem_mem hk
 ·obtain ⟨k,rfl,hk,_⟩:=lv i b h1
  obtain ⟨k',rfl,hk',_⟩:=lv j b' h2
  rw [up,up] at he
  have a1:k<(flatP pl).length:=by rw [flatP_len,←hlen];exact hk
  have a2:k'<(flatP pl).length:=by rw [flatP_len,←hlen];exact hk'
  simp only [List.getD,List.getElem?_eq_getElem a1,List.getElem?_eq_getElem a2,Option.getD_some] at he
  have:=(List.getElem_inj nd).1 he
  omega
 ·obtain ⟨k,rfl,hk,hb'⟩:=lv i b hb
  rw [up]
  obtain ⟨b0,e,g1,g2,g3⟩:=objs_blk (θ:=List.range m++flatP pl) hp (fun k _=>up k) (by rw [lθ];omega) k _ hb'
  simp only [Option.some.injEq] at e
  subst e
  refine ⟨_,g1,by simp [renB,rens_eq],BlkV_of rfl g3 fun k v hk=>?_⟩
  rw [bnds_eq,List.all_eq_true] at g2
  exact ⟨g2 v (List.mem_of_getElem? hk),by simp only [renB,rens_eq,List.getElem?_map,hk,Option.map_some]⟩
 ·rw [bnds_eq,List.all_eq_true] at hF
  refine ⟨by rw [lθ];exact hF v (List.mem_of_getElem? hk),?_⟩
  rcases wk_get hF' k (Go.Am.ren (List.range m++flatP pl) v) (by rw [rens_eq];simp [hk]) with h | h
  ·left
   cases v with
   | undef=>rfl
   | ptr r o=>cases r<;>simp [Go.Am.ren] at h
   | slice m r o n=>cases r<;>simp [Go.Am.ren] at h
   | _=>simp [Go.Am.ren] at h
  ·exact .inr h
end Go.Am
namespace Go.Am
open Go.Proofs Crc
set_option maxRecDepth 100000
set_option maxHeartbeats 1000000
theorem doQ_ok (G:Nat→List AV) (B:Nat):DSumsOk (⟨Try.prog,G,B⟩:Ctx) (doQ (okObj tsP) (okObj tsR)):=
 .cons (objS_ok tsP_ok (forkK_ok (fun s hw n=>p_fork G B hw n) (by simp)))<|.cons (objS_ok tsP_ok (endK_ok (fun s hw n a=>p_end G B hw n a) (by simp))) <|
 .cons (objS_ok tsP_ok (groupK_ok (fun s hw n a=>p_group G B n a) (by simp)))<|.cons (objS_ok tsP_ok (userK_ok (fun s hw n a=>p_user G B n a) (by simp))) <|
 .cons (objS_ok tsP_ok (killK_ok (fun s hw n a b=>p_kill G B hw n a b) (by simp)))<|.cons (objS_ok tsP_ok (takeK_ok (fun s hw n=>p_takeM G B hw n) (by simp))) <|
 .cons (objS_ok tsP_ok (waitK_ok (fun s hw n a=>p_wait G B hw n a) (by simp)))<|.cons (objS_ok tsP_ok (maskK_ok (fun s hw n a=>p_maskM G B hw n a) (by simp))) <|
 .cons (objS_ok tsP_ok (handK_ok (fun s hw n a b=>p_handleM G B hw n a b) (by simp))) <|
 .cons (copyQ_ok tsP_ok (fun s hw=>p_copyM G B hw))<|.cons (sameQ_ok tsP_ok (fun s s' _ _=>p_sameM G B s s')) <|
 .cons (objS_ok tsR_ok (forkK_ok (fun s hw n=>r_fork G B hw n) (by simp)))<|.cons (objS_ok tsR_ok (endK_ok (fun s hw n a=>r_end G B hw n a) (by simp))) <|
 .cons (objS_ok tsR_ok (groupK_ok (fun s hw n a=>r_group G B n a) (by simp)))<|.cons (objS_ok tsR_ok (userK_ok (fun s hw n a=>r_user G B n a) (by simp))) <|
 .cons (killR_ok tsR_ok (fun s hw n a b h=>r_kill G B hw n a b h) (by simp))<|.cons (objS_ok tsR_ok (takeK_ok (fun s hw n=>r_takeM G B hw n) (by simp))) <|
 .cons (objS_ok tsR_ok (waitK_ok (fun s hw n a=>r_wait G B hw n a) (by simp)))<|.cons (objS_ok tsR_ok (maskK_ok (fun s hw n a=>r_maskM G B hw n a) (by simp))) <|
 .cons (objS_ok tsR_ok (handK_ok (fun s hw n a b=>r_handleM G B hw n a b) (by simp))) .nil
def stepX (s:Ptb) (c p a b:Int):Ptb:=
 if c=1 then forkY s p else if c=2 then endX s p a else if c=3 then waitX s p a else if c=4 then groupX s p a else if c=5 then userX s p a else
 if c=6 then killX s p a b else if c=7 then maskX s p a else if c=8 then handX s p a b else if c=9 then takeX s p else s
theorem Wf.stepX {s:Ptb} (h:Wf s) (c p a b:Int):Wf (stepX s c p a b):=by
 unfold Go.Am.stepX
 split
 ·exact h.forkR _
 split
 ·exact h.endR _ _
 split
 ·exact h.waitX _ _
 split
 ·exact h.groupX _ _
 split
 ·exact h.userX _ _
 split
 ·exact h.killX _ _ _
 split
 ·exact h.maskX _ _
 split
 ·exact h.handX _ _ _
 split
 ·exact h.takeX _
 ·exact h
def DoR (s:Ptb) (v:AV) (H:Hp):Prop:=∃ i b j c,v=.tup [.ptr (.rw i) 0,.ptr (.rw j) 0,.bool true]∧AtO tsP s i b H∧AtO tsR s j c H∧nodupB (flatP [(i,b),(j,c)])=true∧28≤H.length
theorem mk_do {s s':Ptb} {X:List AV} {H:Hp} {i b j c:Nat} {ok:Bool} (e:s=s') (hX:X=encX s) (hs:Wf s) (hb:ok=true) (h0:H[i]?=some (some ⟨1,tabF tsP [.int .i64 (b:Int),.agg X]⟩)) (h1:∀ n,n<13→H[b+n]?=some (some ⟨1,setF tsP n [.agg X]⟩))
  (h2:H[j]?=some (some ⟨1,tabF tsR [.int .i64 (c:Int),.agg X]⟩)) (h3:∀ n,n<13→H[c+n]?=some (some ⟨1,setF tsR n [.agg X]⟩)) (nd:nodupB (flatP [(i,b),(j,c)])=true) (hl:28≤H.length):DoR s' (.tup [.ptr (.rw i) 0,.ptr (.rw j) 0,.bool ok]) H:=by
 subst e
 exact ⟨i,b,j,c,by rw [hb],AtO.word hX hs.thin h0 h1,AtO.word hX hs.thin h2 h3,nd,hl⟩
theorem m13 {P:Nat→Prop} (h:P 0∧P 1∧P 2∧P 3∧P 4∧P 5∧P 6∧P 7∧P 8∧P 9∧P 10∧P 11∧P 12):∀ n,n<13→P n:=fun n hn=>by
 obtain ⟨h0,h1,h2,h3,h4,h5,h6,h7,h8,h9,h10,h11,h12⟩:=h
 match n,hn with
 | 0,_=>exact h0
 | 1,_=>exact h1
 | 2,_=>exact h2
 | 3,_=>exact h3
 | 4,_=>exact h4
 | 5,_=>exact h5
 | 6,_=>exact h6
 | 7,_=>exact h7
 | 8,_=>exact h8
 | 9,_=>exact h9
 | 10,_=>exact h10
 | 11,_=>exact h11
 | 12,_=>exact h12
theorem stay_do {s s':Ptb} {X:List AV} {E:Hp} {ok:Bool} (e:s=s') (hX:X=encX s) (hs:Wf s) (hb:ok=true):DoR s' (.tup [.ptr (.rw 0) 0,.ptr (.rw 14) 0,.bool ok]) (objL 1 X++(objU 15 X++E)):=by
 exact mk_do (i:=0) (b:=1) (j:=14) (c:=15) e hX hs hb rfl (m13 ⟨rfl,rfl,rfl,rfl,rfl,rfl,rfl,rfl,rfl,rfl,rfl,rfl,rfl⟩) rfl (m13 ⟨rfl,rfl,rfl,rfl,rfl,rfl,rfl,rfl,rfl,rfl,rfl,rfl,rfl⟩) (by decide) (by simp [objL,objU,setL,setU];omega)
theorem sameT_self (s:Ptb):sameT s s=true:=by
 unfold sameT
 rw [List.all_eq_true]
 intro n _
 rw [Bool.and_eq_true]
 refine ⟨by simp [pcB],?_⟩
 cases s.sg n with
 | none=>rfl
 | some p=>exact sameB_refl' p
theorem do_run (G:Nat→List AV) (B:Nat) {s:Ptb} (hw:Wf s) (c p a b:Int) (ha:-9223372036854775808≤a):ACalls (⟨Try.prog,G,B⟩:Ctx) 18 [.ptr (.rw 0) 0,.ptr (.rw 14) 0,.agg [.int .i64 c,.int .i64 p,.int .i64 a,.int .i64 b]] (objs 0 [(tsP,s),(tsR,s)]) fun v H'=>DoR (stepX s c p a b) v (H'.take 200):=by
 have h:=dcall_ok (C:=(⟨Try.prog,G,B⟩:Ctx)) (K:=Dc Try.prog [14] (doQ (okObj tsP) (okObj tsR)) [] 0) (fuel:=900) (n0:=20) (f:=18) (fn:=Try.f18) (args:=[.ptr (.rw 0) (.lit 0),.ptr (.rw 14) (.lit 0),.agg (.of [.int .i64 (.var 10 c),.int .i64 (.var 11 p),.int .i64 (.var 12 a),.int .i64 (.var 13 b)])]) (H:=objD 1 (.var 1 (encX s))++objE 15 (.var 1 (encX s))) (keep:=200)
  (R:=fun v H=>DoR (stepX s c p a b) v H) (by rw [show loopsOf (bodyOf Try.f18)=[] by kernel_rfl];exact dgood (mix G B) (by kernel_rfl) (doQ_ok G B) .nil) (by kernel_rfl) (by kernel_rfl) (by kernel_rfl) (by
  rw [do_t]
  have o1:=okO hw 1
  have o2:=okOU hw 15
  have bf:∀ x:Int,(x==x)=true:=fun x=>beq_self_eq_true x
  have bb:∀ x:Bool,(x==x)=true:=fun x=>beq_self_eq_true x
  have st:∀ (d:Int) (X:Ptb),(c==d)=true→(c=d→stepX s c p a b=X)→X=stepX s c p a b:=fun d X h1 h2=>(h2 (eq_of_beq h1)).symm
  refine ⟨fun h1=>?_,fun n1=>⟨fun h2=>?_,fun n2=>⟨fun h3=>?_,fun n3=>⟨fun h4=>?_,fun n4=>⟨fun h5=>?_,fun n5=>⟨fun h6=>?_,fun n6=>⟨fun h7=>?_,fun n7=>⟨fun h8=>?_,fun n8=>⟨fun h9=>?_,fun n9=>⟨fun h10=>?_,fun n10=>?_⟩⟩⟩⟩⟩⟩⟩⟩⟩⟩
  ·have e:forkY s p=stepX s c p a b:=st 1 _ h1 fun e=>by subst e;rfl
   have w:Wf (forkY s p):=hw.forkR p
   refine ⟨o1,o2,bf _,?_⟩
   exact mk_do (i:=0) (b:=29) (j:=14) (c:=42) e (xX1_enc hw.thin p forkY) w (bf _) rfl (m13 ⟨rfl,rfl,rfl,rfl,rfl,rfl,rfl,rfl,rfl,rfl,rfl,rfl,rfl⟩) rfl (m13 ⟨rfl,rfl,rfl,rfl,rfl,rfl,rfl,rfl,rfl,rfl,rfl,rfl,rfl⟩) (by decide) (by simp [setL,setU])
  ·have e:endX s p a=stepX s c p a b:=st 2 _ h2 fun e=>by subst e;rfl
   have w:Wf (endX s p a):=hw.endR p a
   refine ⟨o1,o2,?_⟩
   exact mk_do (i:=0) (b:=29) (j:=14) (c:=42) e (xX2_enc hw.thin p a endX) w (bf _) rfl (m13 ⟨rfl,rfl,rfl,rfl,rfl,rfl,rfl,rfl,rfl,rfl,rfl,rfl,rfl⟩) rfl (m13 ⟨rfl,rfl,rfl,rfl,rfl,rfl,rfl,rfl,rfl,rfl,rfl,rfl,rfl⟩) (by decide) (by simp [setL,setU])
  ·have e:waitX s p a=stepX s c p a b:=st 3 _ h3 fun e=>by subst e;rfl
   have w:Wf (waitX s p a):=hw.waitX p a
   refine ⟨o1,o2,bf _,bf _,fun hb=>⟨hb,?_⟩,fun hb=>⟨by rw [hb];rfl,?_⟩⟩
   ·exact stay_do e (xX2_enc hw.thin p a waitX) w (bf _)
   ·exact stay_do e (xX2_enc hw.thin p a waitX) w (bf _)
  ·exact ⟨o1,o2,stay_do (st 4 _ h4 fun e=>by subst e;rfl) (xX2_enc hw.thin p a groupX) (hw.groupX p a) (bf _)⟩
  ·exact ⟨o1,o2,stay_do (st 5 _ h5 fun e=>by subst e;rfl) (xX2_enc hw.thin p a userX) (hw.userX p a) (bf _)⟩
  ·exact ⟨o1,decide_eq_true ha,o2,stay_do (st 6 _ h6 fun e=>by subst e;rfl) (xX3_enc hw.thin p a b killX) (hw.killX p a b) (bf _)⟩
  ·exact ⟨o1,o2,bf _,stay_do (st 7 _ h7 fun e=>by subst e;rfl) (xX2_enc hw.thin p a maskX) (hw.maskX p a) (bf _)⟩
  ·exact ⟨o1,o2,bf _,stay_do (st 8 _ h8 fun e=>by subst e;rfl) (xX3_enc hw.thin p a b handX) (hw.handX p a b) (bf _)⟩
  ·have e:takeX s p=stepX s c p a b:=st 9 _ h9 fun e=>by subst e;rfl
   have w:Wf (takeX s p):=hw.takeX p
   refine ⟨o1,o2,bf _,fun hb=>⟨hb,bf _,?_⟩,fun hb=>⟨by rw [hb];rfl,bf _,?_⟩⟩
   ·exact mk_do (i:=0) (b:=29) (j:=14) (c:=43) e (xX1_enc hw.thin p takeX) w (bb _) rfl (m13 ⟨rfl,rfl,rfl,rfl,rfl,rfl,rfl,rfl,rfl,rfl,rfl,rfl,rfl⟩) rfl (m13 ⟨rfl,rfl,rfl,rfl,rfl,rfl,rfl,rfl,rfl,rfl,rfl,rfl,rfl⟩) (by decide) (by simp [setL,setU])
   ·exact mk_do (i:=0) (b:=29) (j:=14) (c:=43) e (xX1_enc hw.thin p takeX) w (bb _) rfl (m13 ⟨rfl,rfl,rfl,rfl,rfl,rfl,rfl,rfl,rfl,rfl,rfl,rfl,rfl⟩) rfl (m13 ⟨rfl,rfl,rfl,rfl,rfl,rfl,rfl,rfl,rfl,rfl,rfl,rfl,rfl⟩) (by decide) (by simp [setL,setU])
  ·have e:s=stepX s c p a b:=st 10 _ h10 fun e=>by subst e;rfl
   have w1:Wf (forkY s 1):=hw.forkR 1
   have w2:Wf (killX (forkY s 1) 1 1 1):=w1.killX 1 1 1
   rw [xX1_enc hw.thin,xX3_enc w1.thin]
   refine ⟨o1,okO hw 30,o1,o1,okO w1 43,okO w2 43,?_⟩
   refine mk_do (i:=29) (b:=30) (j:=14) (c:=15) e rfl hw ?_ rfl (m13 ⟨rfl,rfl,rfl,rfl,rfl,rfl,rfl,rfl,rfl,rfl,rfl,rfl,rfl⟩) rfl (m13 ⟨rfl,rfl,rfl,rfl,rfl,rfl,rfl,rfl,rfl,rfl,rfl,rfl,rfl⟩) (by decide) (by simp [objL,objU,setL,setU])
   show sameT (decX (encX s)) (decX (encX s))=true
   rw [decX_enc hw.thin,sameT_self]
  ·have e:s=stepX s c p a b:=by
    unfold stepX
    have f:∀ {d:Int},(c==d)=false→¬c=d:=fun h=>beq_eq_false_iff_ne.1 h
    rw [if_neg (f n1),if_neg (f n2),if_neg (f n3),if_neg (f n4),if_neg (f n5),if_neg (f n6),if_neg (f n7),if_neg (f n8),if_neg (f n9)]
   exact stay_do e rfl hw rfl)
 have hH:vHp G (objD 1 (.var 1 (encX s))++objE 15 (.var 1 (encX s)))=objs 0 [(tsP,s),(tsR,s)]:=by
  show objL 1 (encX s)++objU 15 (encX s)=_
  rw [show objL 1 (encX s)=_ from objL_enc hw.thin 1,show objU 15 (encX s)=_ from objU_enc hw.thin 15]
  simp only [objs,List.append_nil]
 rw [hH] at h
 exact h
theorem do_call (G:Nat→List AV) (B:Nat) {s:Ptb} (hw:Wf s) (c p a b:Int) (ha:-9223372036854775808≤a):ACalls (⟨Try.prog,G,B⟩:Ctx) 18 [.ptr (.rw 0) 0,.ptr (.rw 14) 0,.agg [.int .i64 c,.int .i64 p,.int .i64 a,.int .i64 b]] (objs 0 [(tsP,s),(tsR,s)]) fun v H'=>v=.tup [.ptr (.rw 28) 0,.ptr (.rw 42) 0,.bool true]∧H'=List.replicate 28 none++objs 28 [(tsP,stepX s c p a b),(tsR,stepX s c p a b)]:=
 (do_run G B hw c p a b ha).view fun v H' ⟨i,b1,j,c1,e,hP,hR,hn,hl⟩=>by
  subst e
  refine ⟨_,_,⟨rfl,rfl⟩,?_⟩
  rw [objs_len]
  refine View.objs (m:=28) (pl:=[(i,b1),(j,c1)]) ?_ ⟨tsP_ok,hP.more,tsR_ok,hR.more,trivial⟩ hn rfl ?_
  ·rw [List.length_take] at hl;omega
  ·exact ⟨rfl,trivial⟩
end Go.Am
namespace Go.Am
open Crc
variable {C:Ctx}
def stepXU:List AV→List AV:=fun vs=>match vs with
 | [.agg x,.agg el]=>encX (stepX (decX x) (getI el 0) (getI el 1) (getI el 2) (getI el 3))
 | _=>[]
open Classical in
noncomputable def eqXU:List AV→Bool:=fun vs=>match vs with
 | [.agg x,.agg y]=>decide (x=y)
 | _=>false
open Classical in
noncomputable def stepOk:List AV→Bool:=fun vs=>match vs with
 | [.agg el]=>decide (∃ c p a b:Int,el=[.int .i64 c,.int .i64 p,.int .i64 a,.int .i64 b]∧-9223372036854775808≤a)
 | _=>false
theorem eqXU_iff {x y:List AV}:eqXU [.agg x,.agg y]=true↔x=y:=by
 unfold eqXU;simp only [decide_eq_true_eq]
theorem stepOk_iff {el:List AV}:stepOk [.agg el]=true↔∃ c p a b:Int,el=[.int .i64 c,.int .i64 p,.int .i64 a,.int .i64 b]∧-9223372036854775808≤a:=by
 unfold stepOk;simp only [decide_eq_true_eq]
def duoE (L:Nat) (x:EL):List DBlk:=tabE 2101 tsP (L+1) x::setsE 2101 tsP x++(tabE 2251 tsR (L+15) x::setsE 2251 tsR x)
def duoH (js:List Nat) (L:Nat) (x:EL):List DHop:=(js.zip (duoE L x)).map fun p=>.app p.1 p.2
def doD (ok okr eqx okS:List AV→Bool):DSum:=fun args H=>match args with
 | [.ptr (.rw i) (.lit 0),.ptr (.rw j) (.lit 0),.agg el]=>match objAt 2101 H i,objAt 2251 H j with
  | some o,some q=>match nodupB (thO i o.b++thO j q.b) with
   | true=>some (.chk (oaChk 2101 ok o) (.chk (oaChk 2251 okr q) (.chk (.uf 2472 eqx [.agg o.x,.agg q.x]) (.chk (.uf 2473 okS [.agg el]) (.one (.tup [.ptr (.rw H.length) (.lit 0),.ptr (.rw (H.length+14)) (.lit 0),.bool (.lit true)]) (duoH (thO i o.b++thO j q.b) H.length (.uf 2474 stepXU [.agg o.x,.agg el])))))))
   | false=>none
  | _,_=>none
 | _=>none
theorem duoE_len {L:Nat} {x:EL}:(duoE L x).length=28:=by simp [duoE,setsE]
theorem duoE_blk {G:Nat→List AV} {L:Nat} {x:EL} {s:Ptb} (hx:vL G x=encX s) (hs:thin s):((duoE L x).map (vBlk G)).map some=objs L [(tsP,s),(tsR,s)]:=by
 unfold duoE
 simp only [List.cons_append,List.map_cons,List.map_append]
 rw [vTab hx hs,vTab hx hs,vSets hx hs,vSets hx hs]
 simp only [objs,canB,setsB,List.append_nil,List.cons_append,List.map_map]
 rfl
theorem duoH_acts {G:Nat→List AV} {js:List Nat} {L:Nat} {x:EL} {s:Ptb} (hx:vL G x=encX s) (hs:thin s) {H:Hp} (hl:js.length=28) (hj:∀ j∈js,j<H.length):acts H ((duoH js L x).map (vHop G))=js.foldl (fun H j=>H.set j none) H++objs L [(tsP,s),(tsR,s)]:=by
 have e:(duoH js L x).map (vHop G)=(js.zip ((duoE L x).map (vBlk G))).map fun p=>Hop.app p.1 p.2:=by
  unfold duoH
  rw [List.zip_map_right,List.map_map,List.map_map]
  exact List.map_congr_left fun p _=>rfl
 have h:=acts_apps js ((duoE L x).map (vBlk G)) H [] (by rw [List.length_map,duoE_len,hl]) hj
 rw [List.append_nil,List.nil_append] at h
 rw [e,h,duoE_blk hx hs]
theorem renO_objs {θ:List Nat}:∀ {os:List (TS×Ptb)} {L L':Nat},(∀ o∈os,TSOk o.1)→(∀ k,k<14*os.length→θ.getD (L+k) 0=L'+k)→(objs L os).map (renO θ)=objs L' os
 | [],_,_,_,_=>rfl
 | o::os,L,L',ht,h=>by
  simp only [List.length_cons] at h
  simp only [objs,List.map_append]
  rw [renO_canB (ht o (by simp)) (b:=L+1) (b':=L'+1) fun n hn=>by rw [show L+1+n=L+(1+n) by omega,h (1+n) (by omega)];omega]
  rw [renO_objs (L:=L+14) (L':=L'+14) (fun o ho=>ht o (by simp [ho])) fun k hk=>by rw [show L+14+k=L+(14+k) by omega,h (14+k) (by omega)];omega]
theorem objs_hpB {m:Nat}:∀ {os:List (TS×Ptb)} {L:Nat},(∀ o∈os,TSOk o.1)→L+14*os.length≤m→hpB m (objs L os)=true
 | [],_,_,_=>rfl
 | o::os,L,ht,h=>by
  simp only [List.length_cons] at h
  simp only [objs]
  exact hpB_app (canB_hpB (ht o (by simp)) (by omega)) (objs_hpB (fun o ho=>ht o (by simp [ho])) (by omega))
theorem hpB_none {m:Nat}:∀ {k:Nat} {K:Hp},hpB m K=true→hpB m (List.replicate k none++K)=true
 | 0,K,h=>h
 | k+1,K,h=>by
  simp only [List.replicate_succ,List.cons_append,hpB]
  exact hpB_none h
theorem oa_at {tg:Nat} {t:TS} (ht:TSOk t) {H:DHp} {i:Nat} {o:OA} {s:Ptb} (ho:objAt tg H i=some o) (hc:vVs C.G (.agg o.c0::o.cs.map EV.agg)=.agg (t.tb (ptrs o.b s) s)::(List.range 13).map fun n=>.agg (blkO t.enc (s.sg n))):AtO t s i o.b (vHp C.G H):=by
 have live:=oa_live (C:=C) ht ho hc
 refine ⟨?_,fun n hn=>?_⟩
 ·obtain ⟨b0,e,_,g⟩:=live 0 _ rfl
  simp only [Option.some.injEq] at e
  subst e
  have g:(vHp C.G H)[i]?=_:=g
  rw [g]
  simp only [renB]
  rw [ren_tab ht (θ:=thO i o.b) (b:=1) (b':=o.b) fun n hn=>thO_get hn]
 ·obtain ⟨b0,e,_,g⟩:=live (1+n) _ (can_get hn)
  simp only [Option.some.injEq] at e
  subst e
  rw [thO_get hn] at g
  rw [g]
  simp only [renB,rens_flat' ht]
theorem doD_ok {f:FuncId} (h:∀ s,Wf s→∀ c p a b:Int,-9223372036854775808≤a→ACalls C f [.ptr (.rw 0) 0,.ptr (.rw 14) 0,.agg [.int .i64 c,.int .i64 p,.int .i64 a,.int .i64 b]] (objs 0 [(tsP,s),(tsR,s)]) fun v H'=>v=.tup [.ptr (.rw 28) 0,.ptr (.rw 42) 0,.bool true]∧H'=List.replicate 28 none++objs 28 [(tsP,stepX s c p a b),(tsR,stepX s c p a b)]) :
  DSumOk C f (doD (okObj tsP) (okObj tsR) eqXU stepOk):=by
 intro args H o ho
 unfold doD at ho
 split at ho
 ·rename_i i j el
  split at ho
  ·rename_i oa ob hoa hob
   split at ho
   ·rename_i hnd
    simp only [Option.some.injEq] at ho
    subst ho
    intro h1 h2 h3 h4
    have h1:okObj tsP [.int .i64 (oa.b:Int),.agg (vL C.G oa.x),.tup (vVs C.G (.agg oa.c0::oa.cs.map EV.agg))]=true:=h1
    have h2:okObj tsR [.int .i64 (ob.b:Int),.agg (vL C.G ob.x),.tup (vVs C.G (.agg ob.c0::ob.cs.map EV.agg))]=true:=h2
    have h3:eqXU [.agg (vL C.G oa.x),.agg (vL C.G ob.x)]=true:=h3
    have h4:stepOk [.agg (vL C.G el)]=true:=h4
    obtain ⟨s,hw,hx,hc⟩:=okObj_iff.1 h1
    obtain ⟨s2,hw2,hx2,hc2⟩:=okObj_iff.1 h2
    have h3:=eqXU_iff.1 h3
    have es:s2=s:=by
     rw [hx,hx2] at h3
     rw [←decX_enc hw.thin,h3,decX_enc hw2.thin]
    subst es
    obtain ⟨c,p,a,b,hel,ha⟩:=stepOk_iff.1 h4
    rw [Int.toNat_natCast] at hc hc2
    have hA:=oa_at (C:=C) tsP_ok hoa hc
    have hB:=oa_at (C:=C) tsR_ok hob hc2
    have hpl:PlO [(tsP,s2),(tsR,s2)] [(i,oa.b),(j,ob.b)] (vHp C.G H):=⟨tsP_ok,hA,tsR_ok,hB,trivial⟩
    have ef:flatP [(i,oa.b),(j,ob.b)]=thO i oa.b++thO j ob.b:=by simp [flatP]
    have lθ:(thO i oa.b++thO j ob.b).length=28:=by rw [List.length_append,thO_len,thO_len]
    have hw':=hw.stepX c p a b
    have l1:(List.replicate 28 none++objs 28 [(tsP,stepX s2 c p a b),(tsR,stepX s2 c p a b)]).length=56:=by rw [List.length_append,List.length_replicate,objs_len];rfl
    have l0:(objs 0 [(tsP,s2),(tsR,s2)]).length=28:=by rw [objs_len];rfl
    have tok:∀ x:Ptb,∀ o∈[(tsP,x),(tsR,x)],TSOk o.1:=fun x o ho=>by
     simp only [List.mem_cons,List.not_mem_nil,or_false] at ho
     rcases ho with rfl | rfl
     ·exact tsP_ok
     ·exact tsR_ok
    have hiW:∀ k,k<28→(wide (thO i oa.b++thO j ob.b) H.length 28).getD (28+k) 0=H.length+k:=fun k hk=>by
     unfold wide
     simp only [List.getD]
     rw [List.getElem?_append_right (by rw [lθ];omega),lθ,Nat.add_sub_cancel_left,List.getElem?_map,List.getElem?_range hk];rfl
    have eX:vL C.G (.uf 2474 stepXU [.agg oa.x,.agg el])=encX (stepX s2 c p a b):=by
     show stepXU [.agg (vL C.G oa.x),.agg (vL C.G el)]=_
     rw [hx,hel]
     show encX (stepX (decX (encX s2)) c p a b)=_
     rw [decX_enc hw.thin]
    have hcall:=h s2 hw c p a b ha
    generalize stepX s2 c p a b=s' at *
    have hlay:lay (wide (thO i oa.b++thO j ob.b) H.length 28) (thO i oa.b++thO j ob.b) (List.replicate 28 none++objs 28 [(tsP,s'),(tsR,s')]) (vHp C.G H)=(thO i oa.b++thO j ob.b).foldl (fun H j=>H.set j none) (vHp C.G H):=by
     have:=lay_none (wide (thO i oa.b++thO j ob.b) H.length 28) (thO i oa.b++thO j ob.b) (vHp C.G H)
     rw [lθ] at this
     rw [←this]
     exact objHs_ok.lay_more _ _ _ _ _ (by rw [lθ,List.length_replicate])
    refine DOut.fr (θ:=thO i oa.b++thO j ob.b) (H0:=objs 0 [(tsP,s2),(tsR,s2)]) (H1:=List.replicate 28 none++objs 28 [(tsP,s'),(tsR,s')]) (v0:=.tup [.ptr (.rw 28) 0,.ptr (.rw 42) 0,.bool true]) (args0:=[.ptr (.rw 0) 0,.ptr (.rw 14) 0,.agg [.int .i64 c,.int .i64 p,.int .i64 a,.int .i64 b]])
     (nodupB_ok hnd) (by rw [lθ,l0]) ?_ (by rw [lθ];rfl) ?_ hcall (by rw [l0,l1];omega) (by rw [l1];rfl) ?_ ?_ ?_
    ·intro k b' hb'
     obtain ⟨b0,e,g1,g2,_⟩:=objs_blk (θ:=thO i oa.b++thO j ob.b) (L:=0) hpl (fun k _=>by rw [ef,Nat.zero_add]) (by rw [lθ];show 0+14*2≤28;omega) k b' hb'
     rw [ef] at g1
     exact ⟨b0,e,g2,g1⟩
    ·show [AV.ptr (.rw i) 0,.ptr (.rw j) 0,.agg (vL C.G el)]=rens _ _
     rw [hel]
     simp only [rens,ren]
     have e0:(thO i oa.b++thO j ob.b).getD 0 0=i:=rfl
     have e1:(thO i oa.b++thO j ob.b).getD 14 0=j:=by
      simp only [List.getD]
      rw [List.getElem?_append_right (by rw [thO_len];omega),thO_len];rfl
     rw [e0,e1]
    ·rw [l1]
     exact hpB_none (objs_hpB (tok _) (by show 28+14*2≤56;omega))
    ·show AV.tup [.ptr (.rw H.length) 0,.ptr (.rw (H.length+14)) 0,.bool true]=_
     rw [l1,lθ]
     simp only [ren,rens]
     rw [show (28:Nat)=28+0 from rfl,show (42:Nat)=28+14 from rfl,hiW 0 (by omega),hiW 14 (by omega)]
     rfl
    ·rw [duoH_acts (s:=s') eX hw'.thin lθ (by rw [←ef];exact hpl.lt)]
     unfold merge
     rw [l1,lθ]
     have ed:(List.replicate 28 none++objs 28 [(tsP,s'),(tsR,s')]).drop 28=objs 28 [(tsP,s'),(tsR,s')]:=List.drop_left' (by simp)
     rw [ed,vHp_length,renO_objs (L':=H.length) (tok _) (fun k hk=>hiW k (by simpa using hk))]
     rw [hlay]
   ·cases ho
  ·cases ho
 ·cases ho
end Go.Am
namespace Go.Am
open Go.Proofs Crc
set_option maxRecDepth 100000
def sigH (s:Ptb) (n:Int):Hp:=if isP s n=true then can tsP s++[some ⟨1,encP (sgD s n.toNat)⟩] else can tsP s
def sigV (s:Ptb) (n:Int):AV:=if isP s n=true then .ptr (.rw 14) 0 else .nilp
theorem p_sig (G:Nat→List AV) (B:Nat) {s:Ptb} (hw:Wf s) (n:Int):ACalls (⟨Try.prog,G,B⟩:Ctx) 22 [.ptr (.rw 0) 0,.int .i64 n] (can tsP s) fun v H'=>v=sigV s n∧H'=sigH s n:=by
 have h:=dcall_ok (C:=(⟨Try.prog,G,B⟩:Ctx)) (K:=Df Try.prog [(48,1,13)] [36,38,39,20] [(37,fCopyS sideP)] [] 0) (fuel:=300) (n0:=20) (f:=22) (fn:=Try.f22) (args:=[.ptr (.rw 0) (.lit 0),.int .i64 (.var 3 n)]) (H:=(hp3 [some ⟨1,.var 1 (encT 1 s)⟩] (.var 2 (setsL encP s)) [])) (keep:=15)
  (R:=fun v H=>v=sigV s n∧H=sigH s n) (by rw [show loopsOf (bodyOf Try.f22)=[] by kernel_rfl];exact dgoodf (mix G B) (by kernel_rfl) (.cons (fCopyS_ok (sideP_ok G) (p_copy G B)) .nil) .nil) (by kernel_rfl) (by kernel_rfl) (by kernel_rfl) (by
  rw [q22]
  refine ⟨rfl,fun _=>isP_tree 1 (fun hl=>?_) fun hl=>?_,fun h=>by cases h⟩
  ·have h:=isP_iff.1 hl
   obtain ⟨p,hp⟩:=hw.live_sg hl
   obtain ⟨e1,e2,e3,e4,e5⟩:=fam_facts (by omega) hp
   have ed:sgD s n.toNat=p:=by unfold sgD;rw [hp];rfl
   rw [e3,e4,e5]
   refine ⟨decide_eq_true (by omega),decide_eq_true (by omega),(fun h=>by rw [e1] at h;cases h),fun _=>⟨e2,rfl,leB_iff.2 (by omega),rowsA_same _ 13,leB_iff.2 (by rw [setsL_len];omega),okU_enc p,?_,?_⟩⟩
   ·unfold sigV;rw [if_pos hl]
   ·unfold sigH;rw [if_pos hl,ed,←hT G s];rfl
  ·refine ⟨?_,?_⟩
   ·unfold sigV;rw [hl];rfl
   ·unfold sigH;rw [hl,←hT G s];rfl)
 rw [hT] at h
 have b14:hpB 15 (can tsP s)=true:=canB_hpB tsP_ok (s:=s) (b:=1) (by omega)
 cases hc:isP s n with
 | true=>
  have e1:sigH s n=can tsP s++[some ⟨1,encP (sgD s n.toNat)⟩]:=by unfold sigH;rw [if_pos hc]
  have e2:sigV s n=.ptr (.rw 14) 0:=by unfold sigV;rw [if_pos hc]
  have hl:(sigH s n).length=15:=by rw [e1];simp [can_len]
  refine ACalls.keep (k:=15) h (by rw [hl,can_len];omega) ?_ (by rw [hl,e2];rfl) (by rw [e2];simp)
  rw [hl,e1]
  exact hpB_app b14 (by simp only [hpB,encP_flat 15 _,Bool.and_self])
 | false=>
  have e1:sigH s n=can tsP s:=by unfold sigH;rw [hc];rfl
  have e2:sigV s n=.nilp:=by unfold sigV;rw [hc];rfl
  refine ACalls.keep (k:=15) h (by rw [e1];exact Nat.le_refl _) ?_ (by rw [e2];rfl) (by rw [e2];simp)
  rw [e1,can_len];exact can_hpB tsP_ok s
variable {C:Ctx}
def sgXU:List AV→List AV:=fun vs=>match vs with
 | [.agg x,.int _ n]=>encP (sgD (decX x) n.toNat)
 | _=>[]
def sigQ (tg:Nat) (ok:List AV→Bool):DSum:=fun args H=>match args with
 | [.ptr (.rw i) (.lit 0),.int .i64 n]=>match objAt tg H i with
  | some o=>some (.chk (oaChk tg ok o) (.tst (.uf 2436 (xB1 isP) [.agg o.x,.int .i64 n]) (.one (.ptr (.rw H.length) (.lit 0)) [.new ⟨1,.uf 2491 sgXU [.agg o.x,.int .i64 n]⟩]) (.one .nilp [])))
  | none=>none
 | _=>none
theorem sigQ_ok {tg:Nat} {f:FuncId} (h:∀ s,Wf s→∀ n,ACalls C f [.ptr (.rw 0) 0,.int .i64 n] (can tsP s) fun v H'=>v=sigV s n∧H'=sigH s n):DSumOk C f (sigQ tg (okObj tsP)):=by
 intro args H o ho
 unfold sigQ at ho
 split at ho
 ·rename_i i n
  split at ho
  ·rename_i oa hoa
   simp only [Option.some.injEq] at ho
   subst ho
   intro h1
   have h1:okObj tsP [.int .i64 (oa.b:Int),.agg (vL C.G oa.x),.tup (vVs C.G (.agg oa.c0::oa.cs.map EV.agg))]=true:=h1
   obtain ⟨s,hw,hx,hc⟩:=okObj_iff.1 h1
   rw [Int.toNat_natCast] at hc
   have live:=oa_live tsP_ok hoa hc
   have hcall:=h s hw (vI C.G n)
   have eb:vB C.G (.uf 2436 (xB1 isP) [.agg oa.x,.int .i64 n])=isP s (vI C.G n):=by
    show xB1 isP [.agg (vL C.G oa.x),.int .i64 (vI C.G n)]=_
    rw [hx,xB1_enc hw.thin]
   have nd:=thO_nodup (objAt_ok hoa).1
   have same:∀ k,lay (wide (thO i oa.b) (vHp C.G H).length k) (thO i oa.b) (can tsP s) (vHp C.G H)=vHp C.G H:=fun k=>by
    refine lay_same _ _ _ _ fun q b hk hb=>?_
    obtain ⟨b0,rfl,g1,g2⟩:=live q b hb
    rw [g2]
    simp only [renO,Option.map_some,renB,rens_wide _ g1]
   refine ⟨fun hb=>?_,fun hb=>?_⟩
   ·rw [eb] at hb
    have e1:sigH s (vI C.G n)=can tsP s++[some ⟨1,encP (sgD s (vI C.G n).toNat)⟩]:=by unfold sigH;rw [if_pos hb]
    have e2:sigV s (vI C.G n)=.ptr (.rw 14) 0:=by unfold sigV;rw [if_pos hb]
    rw [e1,e2] at hcall
    have l15:(can tsP s++[some (⟨1,encP (sgD s (vI C.G n).toNat)⟩:Blk)]).length=15:=by simp [can_len]
    have eX:vL C.G (.uf 2491 sgXU [.agg oa.x,.int .i64 n])=encP (sgD s (vI C.G n).toNat):=by
     show sgXU [.agg (vL C.G oa.x),.int .i64 (vI C.G n)]=_
     rw [hx]
     show encP (sgD (decX (encX s)) _)=_
     rw [decX_enc hw.thin]
    refine DOut.fr (θ:=thO i oa.b) (H0:=can tsP s) (H1:=can tsP s++[some ⟨1,encP (sgD s (vI C.G n).toNat)⟩]) (v0:=.ptr (.rw 14) 0) (args0:=[.ptr (.rw 0) 0,.int .i64 (vI C.G n)]) nd (by rw [thO_len,can_len]) live (by rw [thO_len];rfl) rfl hcall (by rw [l15,can_len];omega) (by rw [l15];rfl) ?_ ?_ ?_
    ·rw [l15]
     exact hpB_app (canB_hpB tsP_ok (s:=s) (b:=1) (by omega)) (by simp only [hpB,encP_flat 15 _,Bool.and_self])
    ·rw [l15,thO_len]
     show AV.ptr (.rw H.length) 0=AV.ptr (.rw ((wide (thO i oa.b) H.length 1).getD (14+0) 0)) 0
     rw [thO_wide (by omega),Nat.add_zero]
    ·unfold merge
     rw [l15,thO_len,List.drop_left' can_len,objHs_ok.lay_more _ _ _ _ _ (by rw [thO_len,can_len]),same]
     show vHp C.G H++[some (⟨1,vL C.G (.uf 2491 sgXU [.agg oa.x,.int .i64 n])⟩:Blk)]=_
     rw [eX]
     simp only [List.map_cons,List.map_nil,renO,Option.map_some,renB,rens_flat _ _ (encP_flat 0 _)]
   ·rw [eb] at hb
    have e1:sigH s (vI C.G n)=can tsP s:=by unfold sigH;rw [hb];rfl
    have e2:sigV s (vI C.G n)=.nilp:=by unfold sigV;rw [hb];rfl
    rw [e1,e2] at hcall
    refine DOut.fr (θ:=thO i oa.b) (H0:=can tsP s) (H1:=can tsP s) (v0:=.nilp) (args0:=[.ptr (.rw 0) 0,.int .i64 (vI C.G n)]) nd (by rw [thO_len,can_len]) live (by rw [thO_len];rfl) rfl hcall (Nat.le_refl _) rfl (by rw [can_len];exact can_hpB tsP_ok s) rfl ?_
    unfold merge
    rw [can_len,thO_len,Nat.sub_self,List.drop_of_length_le (by rw [can_len];omega)]
    show vHp C.G H=lay _ _ _ _++[]
    rw [List.append_nil];exact (same 0).symm
  ·cases ho
 ·cases ho
end Go.Am
namespace Go.Am
open Go.Proofs Crc
set_option maxRecDepth 100000
end Go.Am
