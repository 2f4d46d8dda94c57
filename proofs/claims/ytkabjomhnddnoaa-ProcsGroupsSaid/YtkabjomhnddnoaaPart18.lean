/-
  Processes: the program's Kill: its yield. Processes: the program's Kill: the trees of the iterator and of the ca
-/
import Derived.Test.YtkabjomhnddnoaaPrU
namespace Go.Am
open Go.Proofs Crc
set_option maxRecDepth 100000
set_option maxHeartbeats 1000000
def F0m:Fr:=fl 71 [6,8,11,12,13,43] [.ptr (.rw 15) 0,.int .i64 0,.ptr (.rw 18) 0,.ptr (.rw 19) 0,.ptr (.rw 20) 0,.func 76 [.ptr (.rw 21) 0]]
noncomputable def rcM (p:Nat):List AV:=rcA (loopN Try.f21 0) p F0m
theorem N21_eq:loopN Try.f21 0=.rangeFunc (rgG (loopN Try.f21 0)) (rgP (loopN Try.f21 0)) (rgA (loopN Try.f21 0)) (rgB (loopN Try.f21 0)):=by kernel_rfl
theorem rcM_b (q:Nat):bnds 22 (rcM q)=true:=by kernel_rfl
theorem rc_mM {m q:Nat} (h:22≤m):bnds m (rcM q)=true:=bnds_mono h _ (rcM_b q)
def exM (to sg me:Int) (st sm:Bool) (rc:List AV):Hp:=[some ⟨1,[.ptr (.rw 0) 0]⟩,some ⟨1,[.int .i64 to]⟩,some ⟨1,[.int .i64 sg]⟩,some ⟨1,[.int .i64 me]⟩,some ⟨1,[.bool st]⟩,some ⟨1,[.func 53 [.ptr (.rw 17) 0,.ptr (.rw 14) 0,.ptr (.rw 18) 0,.ptr (.rw 16) 0]]⟩,some ⟨1,[.bool sm]⟩,some ⟨1,[.ptr (.rw 0) 0]⟩,some ⟨4294967291,rc⟩]
def hpM (s:Ptb) (to sg me:Int) (st sm:Bool) (rc:List AV):Hp:=can tsP s++exM to sg me st sm rc
theorem hpM_len {s:Ptb} {to sg me:Int} {st sm:Bool} {rc:List AV}:(hpM s to sg me st sm rc).length=23:=by simp [hpM,exM,can_len]
theorem hM (G:Nat→List AV) (s:Ptb) (to sg me:Int) (st sm:Bool) (rc:List AV):vHp G (HMd (.var 1 (encT 1 s)) (.var 2 (setsL encP s)) (.var 3 to) (.var 4 sg) (.var 5 me) (.var 6 st) (.var 7 sm) (.var 24 rc))=hpM s to sg me st sm rc:=by
 unfold hpM
 rw [←hp_can (t:=tsP) (s:=s)];rfl
theorem can_b2 (s:Ptb) {m:Nat} (hm:14≤m):hpB m (can tsP s)=true:=w_loop.can_b s hm
theorem hpM_b {s:Ptb} {to sg me:Int} {st sm:Bool} {q m:Nat} (h:22≤m):hpB m (hpM s to sg me st sm (rcM q))=true:=by
 unfold hpM exM
 refine hpB_app (can_b2 s (by omega)) ?_
 have e:∀ i,i<22→Nat.blt i m=true:=fun i hi=>Nat.ble_eq_true_of_le (by omega)
 have f:∀ i,i<22→decide (i<m)=true:=fun i hi=>decide_eq_true (by omega)
 simp only [hpB,rc_mM h,bnds,bnd,Bool.and_self,Bool.and_true,f 0 (by omega),f 17 (by omega),f 14 (by omega),f 18 (by omega),f 16 (by omega)]
def kMt (x:Pc) (to:Int):Bool:=to==x.num||(-x.grp==to&&!x.en)
def kMy (x:Pc) (me:Int):Bool:=me==0||me==x.usr
def kNx (s:Ptb) (c:Nat) (to sg me:Int):Ptb:=if (kMt (s.at_ c) to&&(kMy (s.at_ c) me&&!(s.at_ c).en))=true then updS s c (some (sendX (sgD s c) sg)) else s
theorem dgB (G:Nat→List AV) (B:Nat):DGood (⟨Try.prog,G,B⟩:Ctx) (Df Try.prog [(48,1,13)] [53,20,39,36] [(23,fSendS sideP)] [] 0) (loopsOf (rgB (loopN Try.f21 0))):=by
 rw [show loopsOf (rgB (loopN Try.f21 0))=[] by kernel_rfl]
 exact dgoodf (mix G B) (by kernel_rfl) (.cons (fSendS_ok (sideP_ok G) (p_send G B)) .nil) .nil
theorem sendXU_enc (p:Sg) (n:Int):sendXU [.agg (encP p),.int .i64 n]=encP (sendX p n):=by simp only [sendXU,onPI,decP_enc]
theorem y_m (G:Nat→List AV) (B:Nat) {s:Ptb} (hw:Wf s) (xr:List AV) (hx:bnds 14 xr=true) (to sg me:Int) (st sm:Bool) (i:Nat) (x0 x1 x2 x3:Int) (xb:Bool) (x5:Int) (he:s.at_ i=(⟨x0,x1,x2,x3,xb,x5⟩:Pc)) (hi:x0=(i:Int)) (h1:1≤i) (h2:i≤12) :
    AYld (⟨Try.prog,G,B⟩:Ctx) 22 [.agg (rowU (⟨x0,x1,x2,x3,xb,x5⟩:Pc))] (hpM s to sg me st sm (rcM 0)++[some ⟨1,xr⟩]) fun v H'=>v=.bool true∧H'=hpM (kNx s i to sg me) to sg me (st||(kMt (⟨x0,x1,x2,x3,xb,x5⟩:Pc) to&&kMy (⟨x0,x1,x2,x3,xb,x5⟩:Pc) me)) (sm||kMt (⟨x0,x1,x2,x3,xb,x5⟩:Pc) to) (rcM 0)++[some ⟨1,xr⟩]:=by
  have eH:vHp G ((HMd (.var 1 (encT 1 s)) (.var 2 (setsL encP s)) (.var 3 to) (.var 4 sg) (.var 5 me) (.var 6 st) (.var 7 sm) (.var 24 (rcM 0)))++([some ⟨1,.var 23 xr⟩]:DHp))=hpM s to sg me st sm (rcM 0)++[some ⟨1,xr⟩]:=by rw [vHp_app,hM];rfl
  rw [← eH]
  refine AYld.dx (C:=(⟨Try.prog,G,B⟩:Ctx)) (K:=(Df Try.prog [(48,1,13)] [53,20,39,36] [(23,fSendS sideP)] [] 0)) (f1:=200) (f2:=300) (n1:=60) (n2:=60) (N:=71) (live:=[6,8,11,12,13,43,44,14]) (i:=22) (e:=4294967291) (ps:=rgP (loopN Try.f21 0)) (ac:=rgA (loopN Try.f21 0)) (bd:=rgB (loopN Try.f21 0)) (F0:=F0m) (args:=[.agg (rowU (⟨x0,x1,x2,x3,xb,x5⟩:Pc))])
    (vs:=[.ptr (.rw 15) (.lit 0),.int .i64 (.lit 0),.ptr (.rw 18) (.lit 0),.ptr (.rw 19) (.lit 0),.ptr (.rw 20) (.lit 0),.func 76 [.ptr (.rw 21) (.lit 0)],.agg (.of [.int .i64 (.var 11 x0),.int .i64 (.var 12 x1),.int .i64 (.var 13 x2),.int .i64 (.var 14 x3),.bool (.var 15 xb),.int .i64 (.var 16 x5)]),.undef]) (vs1:=[.ptr (.rw 15) (.lit 0),.int .i64 (.lit 0),.ptr (.rw 18) (.lit 0),.ptr (.rw 19) (.lit 0),.ptr (.rw 20) (.lit 0),.func 76 [.ptr (.rw 21) (.lit 0)],.agg (.of [.int .i64 (.var 11 x0),.int .i64 (.var 12 x1),.int .i64 (.var 13 x2),.int .i64 (.var 14 x3),.bool (.var 15 xb),.int .i64 (.var 16 x5)]),.ptr (.rw 24) (.lit 0)])
    (H:=(HMd (.var 1 (encT 1 s)) (.var 2 (setsL encP s)) (.var 3 to) (.var 4 sg) (.var 5 me) (.var 6 st) (.var 7 sm) (.var 24 (rcM 0)))++([some ⟨1,.var 23 xr⟩]:DHp)) (H1:=(HMd (.var 1 (encT 1 s)) (.var 2 (setsL encP s)) (.var 3 to) (.var 4 sg) (.var 5 me) (.var 6 st) (.var 7 sm) (.var 24 (rcM 0)))++([some ⟨1,.var 23 xr⟩]:DHp)++([some ⟨1,(.of [.int .i64 (.var 11 x0),.int .i64 (.var 12 x1),.int .i64 (.var 13 x2),.int .i64 (.var 14 x3),.bool (.var 15 xb),.int .i64 (.var 16 x5)])⟩]:DHp)) (H2:=(HMd (.var 1 (encT 1 s)) (.var 2 (setsL encP s)) (.var 3 to) (.var 4 sg) (.var 5 me) (.var 6 st) (.var 7 sm) (.var 24 (rcM 1)))++([some ⟨1,.var 23 xr⟩]:DHp)++([some ⟨1,(.of [.int .i64 (.var 11 x0),.int .i64 (.var 12 x1),.int .i64 (.var 13 x2),.int .i64 (.var 14 x3),.bool (.var 15 xb),.int .i64 (.var 16 x5)])⟩]:DHp))
    (by rw [show loopsOf (rgA (loopN Try.f21 0)) = [] by kernel_rfl]; exact dgoodf (mix G B) (by kernel_rfl) (.cons (fSendS_ok (sideP_ok G) (p_send G B)) .nil) .nil) (dgB G B) rfl rfl rfl (by kernel_rfl) (by kernel_rfl) rfl ?_ rfl (by simp [HMd]) rfl ?_
  · have:=m_as' G (encT 1 s) (setsL encP s) (rcM 0) xr to sg me st sm x0 x1 x2 x3 xb x5 (fun ex ws H'=>ex=.normal∧ws=vVs G [.ptr (.rw 15) (.lit 0),.int .i64 (.lit 0),.ptr (.rw 18) (.lit 0),.ptr (.rw 19) (.lit 0),.ptr (.rw 20) (.lit 0),.func 76 [.ptr (.rw 21) (.lit 0)],.agg (.of [.int .i64 (.var 11 x0),.int .i64 (.var 12 x1),.int .i64 (.var 13 x2),.int .i64 (.var 14 x3),.bool (.var 15 xb),.int .i64 (.var 16 x5)]),.ptr (.rw 24) (.lit 0)]∧H'=vHp G ((HMd (.var 1 (encT 1 s)) (.var 2 (setsL encP s)) (.var 3 to) (.var 4 sg) (.var 5 me) (.var 6 st) (.var 7 sm) (.var 24 (rcM 0)))++([some ⟨1,.var 23 xr⟩]:DHp)++([some ⟨1,(.of [.int .i64 (.var 11 x0),.int .i64 (.var 12 x1),.int .i64 (.var 13 x2),.int .i64 (.var 14 x3),.bool (.var 15 xb),.int .i64 (.var 16 x5)])⟩]:DHp))) (fun _ _=>False)
    exact Eq.mpr this ⟨rfl,rfl,rfl⟩
  · have:=m_bd G (encT 1 s) (setsL encP s) (rcM 1) xr to sg me st sm x0 x1 x2 x3 xb x5 (fun ex _ H'=>H'[22]?=some (some ⟨4294967291,.rcd 1 (rgP (loopN Try.f21 0)) (rgA (loopN Try.f21 0)) (rgB (loopN Try.f21 0))::F0m⟩)∧∃ H'' Gx,H'.set 22 (some ⟨4294967291,.rcd (stEx ex) (rgP (loopN Try.f21 0)) (rgA (loopN Try.f21 0)) (rgB (loopN Try.f21 0))::F0m⟩)=H''++Gx∧((HMd (.var 1 (encT 1 s)) (.var 2 (setsL encP s)) (.var 3 to) (.var 4 sg) (.var 5 me) (.var 6 st) (.var 7 sm) (.var 24 (rcM 0)))++([some ⟨1,.var 23 xr⟩]:DHp)).length≤H''.length∧hpB H''.length H''=true∧
      (AV.bool (isNormal ex)=.bool true∧H''=hpM (kNx s i to sg me) to sg me (st||(kMt (⟨x0,x1,x2,x3,xb,x5⟩:Pc) to&&kMy (⟨x0,x1,x2,x3,xb,x5⟩:Pc) me)) (sm||kMt (⟨x0,x1,x2,x3,xb,x5⟩:Pc) to) (rcM 0)++[some ⟨1,xr⟩])) (fun _ _=>False)
    have fin:∀ (s':Ptb) (st' sm':Bool) (l sl:List AV),l=encT 1 s'→sl=setsL encP s'→kNx s i to sg me=s'→(st||(kMt (⟨x0,x1,x2,x3,xb,x5⟩:Pc) to&&kMy (⟨x0,x1,x2,x3,xb,x5⟩:Pc) me))=st'→(sm||kMt (⟨x0,x1,x2,x3,xb,x5⟩:Pc) to)=sm'→
        ((some (⟨1,l⟩:Blk)::((List.range 13).map (fun n=>some ⟨1,rowA sl n⟩)++(exM to sg me st' sm' (rcM 1)++[some ⟨1,xr⟩,some ⟨1,rowU (⟨x0,x1,x2,x3,xb,x5⟩:Pc)⟩])))[22]?=some (some ⟨4294967291,.rcd 1 (rgP (loopN Try.f21 0)) (rgA (loopN Try.f21 0)) (rgB (loopN Try.f21 0))::F0m⟩)∧∃ H'' Gx,(some (⟨1,l⟩:Blk)::((List.range 13).map (fun n=>some ⟨1,rowA sl n⟩)++(exM to sg me st' sm' (rcM 1)++[some ⟨1,xr⟩,some ⟨1,rowU (⟨x0,x1,x2,x3,xb,x5⟩:Pc)⟩]))).set 22 (some ⟨4294967291,.rcd (stEx .normal) (rgP (loopN Try.f21 0)) (rgA (loopN Try.f21 0)) (rgB (loopN Try.f21 0))::F0m⟩)=H''++Gx∧((HMd (.var 1 (encT 1 s)) (.var 2 (setsL encP s)) (.var 3 to) (.var 4 sg) (.var 5 me) (.var 6 st) (.var 7 sm) (.var 24 (rcM 0)))++([some ⟨1,.var 23 xr⟩]:DHp)).length≤H''.length∧hpB H''.length H''=true∧
          (AV.bool (isNormal .normal)=.bool true∧H''=hpM (kNx s i to sg me) to sg me (st||(kMt (⟨x0,x1,x2,x3,xb,x5⟩:Pc) to&&kMy (⟨x0,x1,x2,x3,xb,x5⟩:Pc) me)) (sm||kMt (⟨x0,x1,x2,x3,xb,x5⟩:Pc) to) (rcM 0)++[some ⟨1,xr⟩])):=fun s' st' sm' l sl e1 e2 e3 e4 e5=>by
      rw [e3,e4,e5]
      subst e1 e2
      refine ⟨rfl,hpM s' to sg me st' sm' (rcM 0)++[some ⟨1,xr⟩],[some ⟨1,rowU (⟨x0,x1,x2,x3,xb,x5⟩:Pc)⟩],?_,by simp [HMd,hpM_len],?_,rfl,rfl⟩
      · unfold hpM
        rw [←hp_can (t:=tsP) (s:=s')];rfl
      · have hl:(hpM s' to sg me st' sm' (rcM 0)++[some (⟨1,xr⟩:Blk)]).length=24:=by simp [hpM_len]
        rw [hl]
        exact hpB_app (hpM_b (by omega)) (by simp only [hpB,bnds_mono (show 14≤24 by omega) _ hx,Bool.and_self])
    have hn:x0.toNat=i:=by omega
    have hat:s.at_ x0.toNat=(⟨x0,x1,x2,x3,xb,x5⟩:Pc):=by rw [hn];exact he
    have hi13:x0.toNat<13:=by omega
    have hgp:=hw.grp (n:=i) (by rw [he];show x0≠0;omega)
    rw [he] at hgp
    have hgp:1≤x2∧x2≤12:=hgp
    have ewr:IntKind.wrap .i64 (0 - x2)=-x2:=by rw [i64_in (by omega)];omega
    have hisP:isP s x0=true:=isP_iff.2 ⟨by omega,by omega,by rw [hat]⟩
    have tu:=T_usr (b:=1) (s:=s) (n:=x0.toNat) hi13
    rw [hat] at tu
    have tu2:getI (encT 1 s) (x0.toNat*7+4)=x3:=tu.2
    rw [ewr,tu2] at this
    have nx1:kMt (⟨x0,x1,x2,x3,xb,x5⟩:Pc) to=true→kMy (⟨x0,x1,x2,x3,xb,x5⟩:Pc) me=true→xb=false→kNx s i to sg me=updS s i (some (sendX (sgD s i) sg)):=fun h1 h2 h3=>by
      unfold kNx;rw [he,h1,h2];exact if_pos (by rw [h3];rfl)
    have nx2:(kMt (⟨x0,x1,x2,x3,xb,x5⟩:Pc) to=false∨kMy (⟨x0,x1,x2,x3,xb,x5⟩:Pc) me=false∨xb=true)→kNx s i to sg me=s:=fun h=>by
      unfold kNx;rw [he]
      refine if_neg fun h'=>?_
      simp only [Bool.and_eq_true,Bool.not_eq_true'] at h'
      rcases h with h | h | h
      · rw [h] at h';exact absurd h'.1 (by simp)
      · rw [h] at h';exact absurd h'.2.1 (by simp)
      · rw [h] at h';exact absurd h'.2.2 (by simp)
    have hxb:live s x0=!xb:=by unfold live;rw [hisP,hat];rfl
    refine Eq.mpr this ?_
    refine ⟨fun h1=>(by
      have mt:kMt (⟨x0,x1,x2,x3,xb,x5⟩:Pc) to=true:=by unfold kMt;rw [show (to==x0)=true from h1];rfl
      exact ⟨fun h2=>(by
        have my:kMy (⟨x0,x1,x2,x3,xb,x5⟩:Pc) me=true:=by unfold kMy;rw [h2];rfl
        exact ⟨rfl,fun _=>live_tree 1 (fun hl=>(by
        rw [hxb] at hl
        have hb:xb=false:=by simpa using hl
        obtain ⟨p,hp⟩:=hw.live_sg hisP
        obtain ⟨f1,f2,f3,f4,f5⟩:=fam_facts hi13 hp
        have ed:sgD s x0.toNat=p:=by unfold sgD;rw [hp];rfl
        refine ⟨decide_eq_true (by omega),decide_eq_true (by omega),(fun h=>by rw [f1] at h;cases h),fun _=>?_⟩
        rw [f3,f4,f5]
        refine ⟨f2,rfl,leB_iff.2 (by omega),rowsA_same _ 13,leB_iff.2 (by rw [setsL_len];omega),okU_enc p,?_⟩
        refine fin (updS s x0.toNat (some (sendX (sgD s x0.toNat) sg))) true true (encT 1 s) (putA (setsL encP s) x0.toNat (sendXU [.agg (encP p),.int .i64 sg])) ?_ ?_ (by rw [hn];exact nx1 mt my hb) (by rw [mt,my];simp) (by rw [mt];simp)
        · show encV (ptrs 1 s) s=encV (ptrs 1 (updS s x0.toNat (some (sendX (sgD s x0.toNat) sg)))) s
          rw [ptrs_updS hp]
        · rw [sendXU_enc,ed];exact setsL_put (t:=tsP) hi13)) (fun hl=>(by
        rw [hxb] at hl
        have hb:xb=true:=by simpa using hl
        exact fin s true true (encT 1 s) (setsL encP s) rfl rfl (nx2 (.inr (.inr hb))) (by rw [mt,my];simp) (by rw [mt];simp))),fun h=>by cases h⟩),fun h2=>⟨decide_eq_true (by omega),decide_eq_true (by omega),tu.1,fun h3=>(by
        have my:kMy (⟨x0,x1,x2,x3,xb,x5⟩:Pc) me=true:=by unfold kMy;rw [show (me==x3)=true from h3,Bool.or_true]
        exact ⟨rfl,fun _=>live_tree 1 (fun hl=>(by
        rw [hxb] at hl
        have hb:xb=false:=by simpa using hl
        obtain ⟨p,hp⟩:=hw.live_sg hisP
        obtain ⟨f1,f2,f3,f4,f5⟩:=fam_facts hi13 hp
        have ed:sgD s x0.toNat=p:=by unfold sgD;rw [hp];rfl
        refine ⟨decide_eq_true (by omega),decide_eq_true (by omega),(fun h=>by rw [f1] at h;cases h),fun _=>?_⟩
        rw [f3,f4,f5]
        refine ⟨f2,rfl,leB_iff.2 (by omega),rowsA_same _ 13,leB_iff.2 (by rw [setsL_len];omega),okU_enc p,?_⟩
        refine fin (updS s x0.toNat (some (sendX (sgD s x0.toNat) sg))) true true (encT 1 s) (putA (setsL encP s) x0.toNat (sendXU [.agg (encP p),.int .i64 sg])) ?_ ?_ (by rw [hn];exact nx1 mt my hb) (by rw [mt,my];simp) (by rw [mt];simp)
        · show encV (ptrs 1 s) s=encV (ptrs 1 (updS s x0.toNat (some (sendX (sgD s x0.toNat) sg)))) s
          rw [ptrs_updS hp]
        · rw [sendXU_enc,ed];exact setsL_put (t:=tsP) hi13)) (fun hl=>(by
        rw [hxb] at hl
        have hb:xb=true:=by simpa using hl
        exact fin s true true (encT 1 s) (setsL encP s) rfl rfl (nx2 (.inr (.inr hb))) (by rw [mt,my];simp) (by rw [mt];simp))),fun h=>by cases h⟩),fun h3=>(by
        have my:kMy (⟨x0,x1,x2,x3,xb,x5⟩:Pc) me=false:=by unfold kMy;rw [h2,show (me==x3)=false from h3];rfl
        exact fin s st true (encT 1 s) (setsL encP s) rfl rfl (nx2 (.inr (.inl my))) (by rw [my];simp) (by rw [mt];simp))⟩⟩),fun h1=>⟨fun h2=>⟨fun h3=>(by
        have mt:kMt (⟨x0,x1,x2,x3,xb,x5⟩:Pc) to=false:=by unfold kMt;rw [show (to==x0)=false from h1,h3];simp
        exact fin s st sm (encT 1 s) (setsL encP s) rfl rfl (nx2 (.inl mt)) (by rw [mt];simp) (by rw [mt];simp)),fun h3=>(by
        have mt:kMt (⟨x0,x1,x2,x3,xb,x5⟩:Pc) to=true:=by unfold kMt;rw [show (-x2==to)=true from h2,h3];simp
        exact ⟨fun h2=>(by
        have my:kMy (⟨x0,x1,x2,x3,xb,x5⟩:Pc) me=true:=by unfold kMy;rw [h2];rfl
        exact ⟨rfl,fun _=>live_tree 1 (fun hl=>(by
        rw [hxb] at hl
        have hb:xb=false:=by simpa using hl
        obtain ⟨p,hp⟩:=hw.live_sg hisP
        obtain ⟨f1,f2,f3,f4,f5⟩:=fam_facts hi13 hp
        have ed:sgD s x0.toNat=p:=by unfold sgD;rw [hp];rfl
        refine ⟨decide_eq_true (by omega),decide_eq_true (by omega),(fun h=>by rw [f1] at h;cases h),fun _=>?_⟩
        rw [f3,f4,f5]
        refine ⟨f2,rfl,leB_iff.2 (by omega),rowsA_same _ 13,leB_iff.2 (by rw [setsL_len];omega),okU_enc p,?_⟩
        refine fin (updS s x0.toNat (some (sendX (sgD s x0.toNat) sg))) true true (encT 1 s) (putA (setsL encP s) x0.toNat (sendXU [.agg (encP p),.int .i64 sg])) ?_ ?_ (by rw [hn];exact nx1 mt my hb) (by rw [mt,my];simp) (by rw [mt];simp)
        · show encV (ptrs 1 s) s=encV (ptrs 1 (updS s x0.toNat (some (sendX (sgD s x0.toNat) sg)))) s
          rw [ptrs_updS hp]
        · rw [sendXU_enc,ed];exact setsL_put (t:=tsP) hi13)) (fun hl=>(by
        rw [hxb] at hl
        have hb:xb=true:=by simpa using hl
        exact fin s true true (encT 1 s) (setsL encP s) rfl rfl (nx2 (.inr (.inr hb))) (by rw [mt,my];simp) (by rw [mt];simp))),fun h=>by cases h⟩),fun h2=>⟨decide_eq_true (by omega),decide_eq_true (by omega),tu.1,fun h3=>(by
        have my:kMy (⟨x0,x1,x2,x3,xb,x5⟩:Pc) me=true:=by unfold kMy;rw [show (me==x3)=true from h3,Bool.or_true]
        exact ⟨rfl,fun _=>live_tree 1 (fun hl=>(by
        rw [hxb] at hl
        have hb:xb=false:=by simpa using hl
        obtain ⟨p,hp⟩:=hw.live_sg hisP
        obtain ⟨f1,f2,f3,f4,f5⟩:=fam_facts hi13 hp
        have ed:sgD s x0.toNat=p:=by unfold sgD;rw [hp];rfl
        refine ⟨decide_eq_true (by omega),decide_eq_true (by omega),(fun h=>by rw [f1] at h;cases h),fun _=>?_⟩
        rw [f3,f4,f5]
        refine ⟨f2,rfl,leB_iff.2 (by omega),rowsA_same _ 13,leB_iff.2 (by rw [setsL_len];omega),okU_enc p,?_⟩
        refine fin (updS s x0.toNat (some (sendX (sgD s x0.toNat) sg))) true true (encT 1 s) (putA (setsL encP s) x0.toNat (sendXU [.agg (encP p),.int .i64 sg])) ?_ ?_ (by rw [hn];exact nx1 mt my hb) (by rw [mt,my];simp) (by rw [mt];simp)
        · show encV (ptrs 1 s) s=encV (ptrs 1 (updS s x0.toNat (some (sendX (sgD s x0.toNat) sg)))) s
          rw [ptrs_updS hp]
        · rw [sendXU_enc,ed];exact setsL_put (t:=tsP) hi13)) (fun hl=>(by
        rw [hxb] at hl
        have hb:xb=true:=by simpa using hl
        exact fin s true true (encT 1 s) (setsL encP s) rfl rfl (nx2 (.inr (.inr hb))) (by rw [mt,my];simp) (by rw [mt];simp))),fun h=>by cases h⟩),fun h3=>(by
        have my:kMy (⟨x0,x1,x2,x3,xb,x5⟩:Pc) me=false:=by unfold kMy;rw [h2,show (me==x3)=false from h3];rfl
        exact fin s st true (encT 1 s) (setsL encP s) rfl rfl (nx2 (.inr (.inl my))) (by rw [my];simp) (by rw [mt];simp))⟩⟩)⟩,fun h2=>(by
        have mt:kMt (⟨x0,x1,x2,x3,xb,x5⟩:Pc) to=false:=by unfold kMt;rw [show (to==x0)=false from h1,show (-x2==to)=false from h2];rfl
        exact fin s st sm (encT 1 s) (setsL encP s) rfl rfl (nx2 (.inl mt)) (by rw [mt];simp) (by rw [mt];simp))⟩⟩
end Go.Am
namespace Go.Am
open Go.Proofs Crc
set_option maxRecDepth 100000
theorem m_it (G:Nat→List AV) (ry:List AV→Bool) (tb sl rc ar sn:List AV) (to sg me:Int) (st sm sv sw:Bool) (i:Nat) (Q:Ex→List AV→Hp→Prop) (R:AV→Hp→Prop):vT G Q R (dloop (Dr Try.prog [] [] [] [] (yAt 2350 22 ry (.one (.bool (.lit true)) [.set 1 ⟨1,.row (.var 31 sn) (.lit 0)⟩,.set 2 ⟨1,.row (.var 31 sn) (.lit 1)⟩,.set 3 ⟨1,.row (.var 31 sn) (.lit 2)⟩,.set 4 ⟨1,.row (.var 31 sn) (.lit 3)⟩,.set 5 ⟨1,.row (.var 31 sn) (.lit 4)⟩,.set 6 ⟨1,.row (.var 31 sn) (.lit 5)⟩,.set 7 ⟨1,.row (.var 31 sn) (.lit 6)⟩,.set 8 ⟨1,.row (.var 31 sn) (.lit 7)⟩,.set 9 ⟨1,.row (.var 31 sn) (.lit 8)⟩,.set 10 ⟨1,.row (.var 31 sn) (.lit 9)⟩,.set 11 ⟨1,.row (.var 31 sn) (.lit 10)⟩,.set 12 ⟨1,.row (.var 31 sn) (.lit 11)⟩,.set 13 ⟨1,.row (.var 31 sn) (.lit 12)⟩,.set 18 ⟨1,.of [.bool (.var 32 sv)]⟩,.set 20 ⟨1,.of [.bool (.var 33 sw)]⟩])) 23) 300 60 23 (loopN Try.f76 0) 27 [0,11,12] [.yld 22,.agg (.var 25 ar),.int .i64 (.ofN (.var 35 i))] (HMd (.var 1 tb) (.var 2 sl) (.var 3 to) (.var 4 sg) (.var 5 me) (.var 6 st) (.var 7 sm) (.var 24 rc)))=(
  (decide ((((i:Nat):Int):Int)<13)=true→
 decide ((0:Int)≤((i:Nat):Int))=true∧
 decide ((((i:Nat):Int):Int)<13)=true∧
 leB ((i)*7+7) (List.length ar)=true∧
 cellsB (subL ar ((i)*7) (7))=true∧
 Nat.beq (List.length (subL ar ((i)*7) (7))) (7)=true∧
 isI .i64 (subL ar ((i)*7) (7)) (0)=true∧
 (decide ((getI (subL ar ((i)*7) (7)) (0):Int)>0)=true→
 leB (6) (List.length (subL ar ((i)*7) (7)))=true∧
 (ry) [.agg ([.agg (subL (subL ar ((i)*7) (7)) (0) (6))]:List AV),.agg ((tp3 [.tup [.int .i64 (1),.agg tb]] sl [.tup [.int .i64 (1),.agg ([.ptr (.rw 0) (0)]:List AV)],.tup [.int .i64 (1),.agg ([.int .i64 (to)]:List AV)],.tup [.int .i64 (1),.agg ([.int .i64 (sg)]:List AV)],.tup [.int .i64 (1),.agg ([.int .i64 (me)]:List AV)],.tup [.int .i64 (1),.agg ([.bool (st)]:List AV)],.tup [.int .i64 (1),.agg ([.func 53 [.ptr (.rw 17) (0),.ptr (.rw 14) (0),.ptr (.rw 18) (0),.ptr (.rw 16) (0)]]:List AV)],.tup [.int .i64 (1),.agg ([.bool (sm)]:List AV)],.tup [.int .i64 (1),.agg ([.ptr (.rw 0) (0)]:List AV)],.tup [.int .i64 (4294967291),.agg rc],.tup [.int .i64 (1),.agg (subL ar ((i)*7) (7))]]):List AV)]=true∧
 Q .normal [.yld 22,.agg ar,.int .i64 (IntKind.wrap .i64 (((i:Nat):Int)+1))] ([some ⟨1,tb⟩]++(rows13 sn++[some ⟨1,([.ptr (.rw 0) (0)]:List AV)⟩,some ⟨1,([.int .i64 (to)]:List AV)⟩,some ⟨1,([.int .i64 (sg)]:List AV)⟩,some ⟨1,([.int .i64 (me)]:List AV)⟩,some ⟨1,([.bool (sv)]:List AV)⟩,some ⟨1,([.func 53 [.ptr (.rw 17) (0),.ptr (.rw 14) (0),.ptr (.rw 18) (0),.ptr (.rw 16) (0)]]:List AV)⟩,some ⟨1,([.bool (sw)]:List AV)⟩,some ⟨1,([.ptr (.rw 0) (0)]:List AV)⟩,some ⟨4294967291,rc⟩,some ⟨1,(subL ar ((i)*7) (7))⟩])))∧
 (decide ((getI (subL ar ((i)*7) (7)) (0):Int)>0)=false→
 Q .normal [.yld 22,.agg ar,.int .i64 (IntKind.wrap .i64 (((i:Nat):Int)+1))] ([some ⟨1,tb⟩]++(rows13 sl++[some ⟨1,([.ptr (.rw 0) (0)]:List AV)⟩,some ⟨1,([.int .i64 (to)]:List AV)⟩,some ⟨1,([.int .i64 (sg)]:List AV)⟩,some ⟨1,([.int .i64 (me)]:List AV)⟩,some ⟨1,([.bool (st)]:List AV)⟩,some ⟨1,([.func 53 [.ptr (.rw 17) (0),.ptr (.rw 14) (0),.ptr (.rw 18) (0),.ptr (.rw 16) (0)]]:List AV)⟩,some ⟨1,([.bool (sm)]:List AV)⟩,some ⟨1,([.ptr (.rw 0) (0)]:List AV)⟩,some ⟨4294967291,rc⟩,some ⟨1,(subL ar ((i)*7) (7))⟩]))))∧
 (decide ((((i:Nat):Int):Int)<13)=false→
 Q (.exit 0) [.yld 22,.agg ar,.int .i64 (((i:Nat):Int))] ([some ⟨1,tb⟩]++(rows13 sl++[some ⟨1,([.ptr (.rw 0) (0)]:List AV)⟩,some ⟨1,([.int .i64 (to)]:List AV)⟩,some ⟨1,([.int .i64 (sg)]:List AV)⟩,some ⟨1,([.int .i64 (me)]:List AV)⟩,some ⟨1,([.bool (st)]:List AV)⟩,some ⟨1,([.func 53 [.ptr (.rw 17) (0),.ptr (.rw 14) (0),.ptr (.rw 18) (0),.ptr (.rw 16) (0)]]:List AV)⟩,some ⟨1,([.bool (sm)]:List AV)⟩,some ⟨1,([.ptr (.rw 0) (0)]:List AV)⟩,some ⟨4294967291,rc⟩])))):=by kernel_rfl
theorem m76 (G:Nat→List AV) (rl:List AV→Bool) (tb sl rc sn:List AV) (to sg me:Int) (st sm sv sw:Bool) (Q:Ex→List AV→Hp→Prop) (R:AV→Hp→Prop):vT G Q R (dcall (Dr Try.prog [36] [] [DLat 2351 (rl) 0 27 [0,11,12] (.one (.exit 0) [.undef,.undef,.undef] (HMd (.var 1 tb) (.var 31 sn) (.var 3 to) (.var 4 sg) (.var 5 me) (.var 32 sv) (.var 33 sw) (.var 24 rc)))] [] noY 23) 300 60 Try.f76 [.yld 22,.ptr (.rw 21) (.lit 0)] (HMd (.var 1 tb) (.var 2 sl) (.var 3 to) (.var 4 sg) (.var 5 me) (.var 6 st) (.var 7 sm) (.var 24 rc)) 23)=(
  isB tb (0)=true∧
 (getB tb (0)=true→
 leB (92) (List.length tb)=true∧
 (rl) [.agg ([.yld 22,.agg (subL tb (1) (91)),.int .i64 (0)]:List AV),.agg ((tp3 [.tup [.int .i64 (1),.agg tb]] sl [.tup [.int .i64 (1),.agg ([.ptr (.rw 0) (0)]:List AV)],.tup [.int .i64 (1),.agg ([.int .i64 (to)]:List AV)],.tup [.int .i64 (1),.agg ([.int .i64 (sg)]:List AV)],.tup [.int .i64 (1),.agg ([.int .i64 (me)]:List AV)],.tup [.int .i64 (1),.agg ([.bool (st)]:List AV)],.tup [.int .i64 (1),.agg ([.func 53 [.ptr (.rw 17) (0),.ptr (.rw 14) (0),.ptr (.rw 18) (0),.ptr (.rw 16) (0)]]:List AV)],.tup [.int .i64 (1),.agg ([.bool (sm)]:List AV)],.tup [.int .i64 (1),.agg ([.ptr (.rw 0) (0)]:List AV)],.tup [.int .i64 (4294967291),.agg rc]]):List AV)]=true∧
 R (.tup []) ([some ⟨1,tb⟩]++(rows13 sn++[some ⟨1,([.ptr (.rw 0) (0)]:List AV)⟩,some ⟨1,([.int .i64 (to)]:List AV)⟩,some ⟨1,([.int .i64 (sg)]:List AV)⟩,some ⟨1,([.int .i64 (me)]:List AV)⟩,some ⟨1,([.bool (sv)]:List AV)⟩,some ⟨1,([.func 53 [.ptr (.rw 17) (0),.ptr (.rw 14) (0),.ptr (.rw 18) (0),.ptr (.rw 16) (0)]]:List AV)⟩,some ⟨1,([.bool (sw)]:List AV)⟩,some ⟨1,([.ptr (.rw 0) (0)]:List AV)⟩,some ⟨4294967291,rc⟩])))∧
 (getB tb (0)=false→
 R (.tup []) ([some ⟨1,tb⟩]++(rows13 sl++[some ⟨1,([.ptr (.rw 0) (0)]:List AV)⟩,some ⟨1,([.int .i64 (to)]:List AV)⟩,some ⟨1,([.int .i64 (sg)]:List AV)⟩,some ⟨1,([.int .i64 (me)]:List AV)⟩,some ⟨1,([.bool (st)]:List AV)⟩,some ⟨1,([.func 53 [.ptr (.rw 17) (0),.ptr (.rw 14) (0),.ptr (.rw 18) (0),.ptr (.rw 16) (0)]]:List AV)⟩,some ⟨1,([.bool (sm)]:List AV)⟩,some ⟨1,([.ptr (.rw 0) (0)]:List AV)⟩,some ⟨4294967291,rc⟩])))):=by kernel_rfl
def HMe (T S:EL) (to sg me:EI) (st sm:EB):DHp:=[some ⟨1,T⟩,some ⟨1,.row S (.lit 0)⟩,some ⟨1,.row S (.lit 1)⟩,some ⟨1,.row S (.lit 2)⟩,some ⟨1,.row S (.lit 3)⟩,some ⟨1,.row S (.lit 4)⟩,some ⟨1,.row S (.lit 5)⟩,some ⟨1,.row S (.lit 6)⟩,some ⟨1,.row S (.lit 7)⟩,some ⟨1,.row S (.lit 8)⟩,some ⟨1,.row S (.lit 9)⟩,some ⟨1,.row S (.lit 10)⟩,some ⟨1,.row S (.lit 11)⟩,some ⟨1,.row S (.lit 12)⟩,some ⟨1,.of [.ptr (.rw 0) (.lit 0)]⟩,some ⟨1,.of [.int .i64 to]⟩,some ⟨1,.of [.int .i64 sg]⟩,some ⟨1,.of [.int .i64 me]⟩,some ⟨1,.of [.bool st]⟩,some ⟨1,.of [.func 53 [.ptr (.rw 17) (.lit 0),.ptr (.rw 14) (.lit 0),.ptr (.rw 18) (.lit 0),.ptr (.rw 16) (.lit 0)]]⟩,some ⟨1,.of [.bool sm]⟩,some ⟨1,.of [.ptr (.rw 0) (.lit 0)]⟩]
theorem m21 (G:Nat→List AV) (rr:List AV→Bool) (tb sl sn:List AV) (n to sg me:Int) (sv sw:Bool) (Q:Ex→List AV→Hp→Prop) (R:AV→Hp→Prop):vT G Q R (dcall (Dr Try.prog [36,38,39,20,54] [] [] [DLat 2352 (rr) 44 71 [6,8,11,12,13,43] (.one .normal [.ptr (.rw 15) (.lit 0),.int .i64 (.lit 0),.ptr (.rw 18) (.lit 0),.ptr (.rw 19) (.lit 0),.ptr (.rw 20) (.lit 0),.func 76 [.ptr (.rw 21) (.lit 0)]] (HMe (.var 1 tb) (.var 31 sn) (.var 3 to) (.var 4 sg) (.var 5 me) (.var 32 sv) (.var 33 sw)))] noY 22) 300 60 Try.f21 [.ptr (.rw 0) (.lit 0),.int .i64 (.var 34 n),.int .i64 (.var 3 to),.int .i64 (.var 4 sg)] (hp3 [some ⟨1,.var 1 tb⟩] (.var 2 sl) []) 14)=(
  isB tb (0)=true∧
 (getB tb (0)=true→
 isB tb (0)=true∧
 getB tb (0)=true∧
 (decide ((n:Int)≥1)=true→
 (decide ((n:Int)≤12)=true→
 decide ((0:Int)≤n)=true∧
 decide ((n:Int)<13)=true∧
 isI .i64 tb ((Int.toNat (n))*7+1)=true∧
 (((getI tb ((Int.toNat (n))*7+1):Int)==n)=true→
 decide ((0:Int)≤n)=true∧
 decide ((n:Int)<13)=true∧
 isB tb ((Int.toNat (n))*7+5)=true∧
 (getB tb ((Int.toNat (n))*7+5)=true→
 R (.int .i64 (6)) ([some ⟨1,tb⟩]++rows13 sl))∧
 (getB tb ((Int.toNat (n))*7+5)=false→
 (decide ((sg:Int)<0)=true→
 R (.int .i64 (2)) ([some ⟨1,tb⟩]++rows13 sl))∧
 (decide ((sg:Int)<0)=false→
 (decide ((sg:Int)>15)=true→
 R (.int .i64 (2)) ([some ⟨1,tb⟩]++rows13 sl))∧
 (decide ((sg:Int)>15)=false→
 (((to:Int)==0)=true→
 R (.int .i64 (2)) ([some ⟨1,tb⟩]++rows13 sl))∧
 (((to:Int)==0)=false→
 decide ((0:Int)≤n)=true∧
 decide ((n:Int)<13)=true∧
 isI .i64 tb ((Int.toNat (n))*7+4)=true∧
 (rr) [.agg ([.ptr (.rw 15) (0),.int .i64 (0),.ptr (.rw 18) (0),.ptr (.rw 19) (0),.ptr (.rw 20) (0),.func 76 [.ptr (.rw 21) (0)]]:List AV),.agg ((tp3 [.tup [.int .i64 (1),.agg tb]] sl [.tup [.int .i64 (1),.agg ([.ptr (.rw 0) (0)]:List AV)],.tup [.int .i64 (1),.agg ([.int .i64 (to)]:List AV)],.tup [.int .i64 (1),.agg ([.int .i64 (sg)]:List AV)],.tup [.int .i64 (1),.agg ([.int .i64 (getI tb ((Int.toNat (n))*7+4))]:List AV)],.tup [.int .i64 (1),.agg ([.bool (false)]:List AV)],.tup [.int .i64 (1),.agg ([.func 53 [.ptr (.rw 17) (0),.ptr (.rw 14) (0),.ptr (.rw 18) (0),.ptr (.rw 16) (0)]]:List AV)],.tup [.int .i64 (1),.agg ([.bool (false)]:List AV)],.tup [.int .i64 (1),.agg ([.ptr (.rw 0) (0)]:List AV)]]):List AV)]=true∧
 (sw=true→
 (sv=true→
 R (.int .i64 (0)) ([some ⟨1,tb⟩]++rows13 sn))∧
 (sv=false→
 R (.int .i64 (8)) ([some ⟨1,tb⟩]++rows13 sn)))∧
 (sw=false→
 R (.int .i64 (6)) ([some ⟨1,tb⟩]++rows13 sn)))))))∧
 (((getI tb ((Int.toNat (n))*7+1):Int)==n)=false→
 R (.int .i64 (6)) ([some ⟨1,tb⟩]++rows13 sl)))∧
 (decide ((n:Int)≤12)=false→
 R (.int .i64 (6)) ([some ⟨1,tb⟩]++rows13 sl)))∧
 (decide ((n:Int)≥1)=false→
 R (.int .i64 (6)) ([some ⟨1,tb⟩]++rows13 sl)))∧
 (getB tb (0)=false→
 R (.int .i64 (1)) ([some ⟨1,tb⟩]++rows13 sl))):=by kernel_rfl
end Go.Am
namespace Go.Am
open Go.Proofs Crc
set_option maxRecDepth 100000
def kR (s:Ptb) (to sg me:Int):Nat→Ptb×Bool×Bool
 | 0=>(s,false,false)
 | i+1=>if 0<(s.at_ i).num then (kNx (kR s to sg me i).1 i to sg me,(kR s to sg me i).2.1||(kMt (s.at_ i) to&&kMy (s.at_ i) me),(kR s to sg me i).2.2||kMt (s.at_ i) to) else kR s to sg me i
structure KI (s s':Ptb):Prop where
 wf:Wf s'
 at_:s'.at_=s.at_
 pt:ptrs 1 s'=ptrs 1 s
theorem KI.tab {s s':Ptb} (h:KI s s'):encT 1 s'=encT 1 s:=by
 show encV (ptrs 1 s') s'=encV (ptrs 1 s) s
 rw [h.pt]
 unfold encV
 rw [h.at_]
theorem kNx_keep {s s':Ptb} (h:KI s s') {i:Nat} (hi:(s.at_ i).num≠0) (to sg me:Int):KI s (kNx s' i to sg me):=by
 unfold kNx
 split
 ·have hi':(s'.at_ i).num≠0:=by rw [h.at_];exact hi
  obtain ⟨_,_,_,p,hp⟩:=h.wf.there hi'
  exact ⟨h.wf.updS hi',h.at_,by rw [ptrs_updS hp];exact h.pt⟩
 ·exact h
theorem kR_inv {s:Ptb} (hw:Wf s) (to sg me:Int):∀ i,KI s (kR s to sg me i).1
 | 0=>⟨hw,rfl,rfl⟩
 | i+1=>by
  unfold kR
  split
  ·exact kNx_keep (kR_inv hw to sg me i) (by omega) to sg me
  ·exact kR_inv hw to sg me i
noncomputable def hpN (s:Ptb) (to sg me:Int) (i:Nat):Hp:=hpM (kR s to sg me i).1 to sg me (kR s to sg me i).2.1 (kR s to sg me i).2.2 (rcM 0)
theorem row14 {s:Ptb} {i:Nat} (hi:i<13):bnds 14 (rowT (s.at_ i) (ptC s 13 i))=true:=by
 have h:bnd 14 (ptC s 13 i)=true:=by
  unfold ptC
  split
  ·rfl
  ·have:(if i=13 then 14 else 1+i)<14:=by split<;>omega
   simpa [bnd] using this
 simp only [rowT,bnds,bnd,h,Bool.and_self]
theorem mO_ok (G:Nat→List AV) (B:Nat) {s:Ptb} (hw:Wf s) (to sg me:Int) {i:Nat} (hi:i<13) (hp:0<(s.at_ i).num):DYsumOk (⟨Try.prog,G,B⟩:Ctx) (yAt 2350 22 (isSt [.agg (subL (subL (arT s 13) (i*7) 7) 0 6)] (vHp G ((HMd (.var 1 (encT 1 (kR s to sg me i).1)) (.var 2 (setsL encP (kR s to sg me i).1)) (.var 3 to) (.var 4 sg) (.var 5 me) (.var 6 (kR s to sg me i).2.1) (.var 7 (kR s to sg me i).2.2) (.var 24 (rcM 0)))++([some ⟨1,.sub (.var 25 (arT s 13)) (.mul (.var 35 i) 7) (.lit 7)⟩]:DHp)))) (.one (.bool (.lit true)) [.set 1 ⟨1,.row (.var 31 (setsL encP (kR s to sg me (i+1)).1)) (.lit 0)⟩,.set 2 ⟨1,.row (.var 31 (setsL encP (kR s to sg me (i+1)).1)) (.lit 1)⟩,.set 3 ⟨1,.row (.var 31 (setsL encP (kR s to sg me (i+1)).1)) (.lit 2)⟩,.set 4 ⟨1,.row (.var 31 (setsL encP (kR s to sg me (i+1)).1)) (.lit 3)⟩,.set 5 ⟨1,.row (.var 31 (setsL encP (kR s to sg me (i+1)).1)) (.lit 4)⟩,.set 6 ⟨1,.row (.var 31 (setsL encP (kR s to sg me (i+1)).1)) (.lit 5)⟩,.set 7 ⟨1,.row (.var 31 (setsL encP (kR s to sg me (i+1)).1)) (.lit 6)⟩,.set 8 ⟨1,.row (.var 31 (setsL encP (kR s to sg me (i+1)).1)) (.lit 7)⟩,.set 9 ⟨1,.row (.var 31 (setsL encP (kR s to sg me (i+1)).1)) (.lit 8)⟩,.set 10 ⟨1,.row (.var 31 (setsL encP (kR s to sg me (i+1)).1)) (.lit 9)⟩,.set 11 ⟨1,.row (.var 31 (setsL encP (kR s to sg me (i+1)).1)) (.lit 10)⟩,.set 12 ⟨1,.row (.var 31 (setsL encP (kR s to sg me (i+1)).1)) (.lit 11)⟩,.set 13 ⟨1,.row (.var 31 (setsL encP (kR s to sg me (i+1)).1)) (.lit 12)⟩,.set 18 ⟨1,.of [.bool (.var 32 (kR s to sg me (i+1)).2.1)]⟩,.set 20 ⟨1,.of [.bool (.var 33 (kR s to sg me (i+1)).2.2)]⟩])):=by
 refine yAt_ok rfl ?_
 have ki:=kR_inv hw to sg me i
 have ea:(kR s to sg me i).1.at_ i=⟨(s.at_ i).num,(s.at_ i).par,(s.at_ i).grp,(s.at_ i).usr,(s.at_ i).en,(s.at_ i).st⟩:=by rw [ki.at_]
 have hn:=hw.there (n:=i) (by omega)
 have key:=y_m G B ki.wf (rowT (s.at_ i) (ptC s 13 i)) (row14 hi) to sg me (kR s to sg me i).2.1 (kR s to sg me i).2.2 i (s.at_ i).num (s.at_ i).par (s.at_ i).grp (s.at_ i).usr (s.at_ i).en (s.at_ i).st ea hn.1 hn.2.1 hn.2.2.1
 have e1:subL (subL (arT s 13) (i*7) 7) 0 6=rowU (s.at_ i):=by rw [arT_row hi];rfl
 have e2:(vHp G ((HMd (.var 1 (encT 1 (kR s to sg me i).1)) (.var 2 (setsL encP (kR s to sg me i).1)) (.var 3 to) (.var 4 sg) (.var 5 me) (.var 6 (kR s to sg me i).2.1) (.var 7 (kR s to sg me i).2.2) (.var 24 (rcM 0)))++([some ⟨1,.sub (.var 25 (arT s 13)) (.mul (.var 35 i) 7) (.lit 7)⟩]:DHp)))=hpM (kR s to sg me i).1 to sg me (kR s to sg me i).2.1 (kR s to sg me i).2.2 (rcM 0)++[some (⟨1,rowT (s.at_ i) (ptC s 13 i)⟩:Blk)]:=by
  rw [vHp_app,hM,←arT_row hi];rfl
 rw [e1,e2]
 refine key.mono ?_
 rintro v H' ⟨rfl,rfl⟩
 have e3:(kR s to sg me (i+1))=(kNx (kR s to sg me i).1 i to sg me,(kR s to sg me i).2.1||(kMt (s.at_ i) to&&kMy (s.at_ i) me),(kR s to sg me i).2.2||kMt (s.at_ i) to):=by
  show (if 0<(s.at_ i).num then _ else _)=_
  rw [if_pos hp]
 have t3:encT 1 (kNx (kR s to sg me i).1 i to sg me)=encT 1 (kR s to sg me i).1:=by rw [(kNx_keep ki (by omega) to sg me).tab,ki.tab]
 rw [e3]
 refine ⟨rfl,?_⟩
 rw [←hM G,←hM G,t3]
 rfl
theorem hpN_len {s:Ptb} {to sg me:Int} {i:Nat}:(hpN s to sg me i).length=23:=hpM_len
theorem ar_b14 (s:Ptb) {m:Nat} (h:15≤m):bnds m (arT s 13)=true:=by
 have h2:bnds m (encV (ptC s 13) s)=true:=tb15 s 13 h
 rw [bnds_eq,List.all_eq_true] at h2 ⊢
 intro v hv
 refine h2 v ?_
 unfold arT subL at hv
 exact List.mem_of_mem_drop (List.mem_of_mem_take hv)
theorem m_next {s:Ptb} {to sg me:Int} {i:Nat} {H' E:Hp} (h:H'=hpN s to sg me (i+1)++E):View 23 [.yld 22,.agg (arT s 13),.int .i64 ((i+1:Nat):Int)] (hpN s to sg me (i+1)) [.yld 22,.agg (arT s 13),.int .i64 ((i+1:Nat):Int)] H':=by
 subst h
 refine View.same (by rw [hpN_len];omega) ?_ ?_
 ·rw [hpN_len];exact hpM_b (by omega)
 ·rw [hpN_len]
  refine ⟨⟨rfl,rfl⟩,⟨?_,rfl⟩,⟨rfl,rfl⟩,trivial⟩
  have:=ar_b14 s (m:=23) (by omega)
  simpa [bnd] using this
theorem hN (G:Nat→List AV) (B:Nat) {s:Ptb} (hw:Wf s) (to sg me:Int) (i:Nat):vHp G (HMd (.var 1 (encT 1 s)) (.var 2 (setsL encP (kR s to sg me i).1)) (.var 3 to) (.var 4 sg) (.var 5 me) (.var 6 (kR s to sg me i).2.1) (.var 7 (kR s to sg me i).2.2) (.var 24 (rcM 0)))=hpN s to sg me i:=by
 rw [←(kR_inv hw to sg me i).tab,hM];rfl
theorem no_y {C:Ctx} {j i0:Nat} {o':Outs}:DYsumOk C (yAt j i0 (fun _=>false) o'):=by
 intro i args H o ho
 unfold yAt at ho
 split at ho
 ·simp only [Option.some.injEq] at ho;subst ho
  intro h;exact absurd h (by simp [vB])
 ·simp at ho
theorem m_loop (G:Nat→List AV) (B:Nat) {s:Ptb} (hw:Wf s) (to sg me:Int) :
  AWp (⟨Try.prog,G,B⟩:Ctx) 23 (.loop (loopN Try.f76 0)) (fl 27 [0,11,12] [.yld 22,.agg (arT s 13),.int .i64 0]) (hpN s to sg me 0) (lv 27 [0,11,12] fun e vs H=>e=.exit 0∧wk [.undef,.undef,.undef] vs∧H=hpN s to sg me 13):=by
 refine scan 13 (fun i=>[.yld 22,.agg (arT s 13),.int .i64 (i:Int)]) (hpN s to sg me) fun i hi=>?_
 have eH:hpN s to sg me i=vHp G (HMd (.var 1 (encT 1 (kR s to sg me i).1)) (.var 2 (setsL encP (kR s to sg me i).1)) (.var 3 to) (.var 4 sg) (.var 5 me) (.var 6 (kR s to sg me i).2.1) (.var 7 (kR s to sg me i).2.2) (.var 24 (rcM 0))):=by unfold hpN;rw [hM]
 rw [eH]
 have al:=arT_len s 13
 by_cases him:i<13
 ·have er:=arT_row (s:=s) (cc:=13) him
  have ki:=kR_inv hw to sg me i
  by_cases hpos:0<(s.at_ i).num
  ·refine dloop_ok (C:=(⟨Try.prog,G,B⟩:Ctx)) (K:=Dr Try.prog [] [] [] [] (yAt 2350 22 (isSt [.agg (subL (subL (arT s 13) (i*7) 7) 0 6)] (vHp G ((HMd (.var 1 (encT 1 (kR s to sg me i).1)) (.var 2 (setsL encP (kR s to sg me i).1)) (.var 3 to) (.var 4 sg) (.var 5 me) (.var 6 (kR s to sg me i).2.1) (.var 7 (kR s to sg me i).2.2) (.var 24 (rcM 0)))++([some ⟨1,.sub (.var 25 (arT s 13)) (.mul (.var 35 i) 7) (.lit 7)⟩]:DHp)))) (.one (.bool (.lit true)) [.set 1 ⟨1,.row (.var 31 (setsL encP (kR s to sg me (i+1)).1)) (.lit 0)⟩,.set 2 ⟨1,.row (.var 31 (setsL encP (kR s to sg me (i+1)).1)) (.lit 1)⟩,.set 3 ⟨1,.row (.var 31 (setsL encP (kR s to sg me (i+1)).1)) (.lit 2)⟩,.set 4 ⟨1,.row (.var 31 (setsL encP (kR s to sg me (i+1)).1)) (.lit 3)⟩,.set 5 ⟨1,.row (.var 31 (setsL encP (kR s to sg me (i+1)).1)) (.lit 4)⟩,.set 6 ⟨1,.row (.var 31 (setsL encP (kR s to sg me (i+1)).1)) (.lit 5)⟩,.set 7 ⟨1,.row (.var 31 (setsL encP (kR s to sg me (i+1)).1)) (.lit 6)⟩,.set 8 ⟨1,.row (.var 31 (setsL encP (kR s to sg me (i+1)).1)) (.lit 7)⟩,.set 9 ⟨1,.row (.var 31 (setsL encP (kR s to sg me (i+1)).1)) (.lit 8)⟩,.set 10 ⟨1,.row (.var 31 (setsL encP (kR s to sg me (i+1)).1)) (.lit 9)⟩,.set 11 ⟨1,.row (.var 31 (setsL encP (kR s to sg me (i+1)).1)) (.lit 10)⟩,.set 12 ⟨1,.row (.var 31 (setsL encP (kR s to sg me (i+1)).1)) (.lit 11)⟩,.set 13 ⟨1,.row (.var 31 (setsL encP (kR s to sg me (i+1)).1)) (.lit 12)⟩,.set 18 ⟨1,.of [.bool (.var 32 (kR s to sg me (i+1)).2.1)]⟩,.set 20 ⟨1,.of [.bool (.var 33 (kR s to sg me (i+1)).2.2)]⟩])) 23) (dgoodr (mix G B) (by kernel_rfl) .nil .nil .none (mO_ok G B hw to sg me him hpos)) (fuel:=300) (n0:=60) (m:=23) (c:=loopN Try.f76 0)
    (vs:=[.yld 22,.agg (.var 25 (arT s 13)),.int .i64 (.ofN (.var 35 i))]) (H:=(HMd (.var 1 (encT 1 (kR s to sg me i).1)) (.var 2 (setsL encP (kR s to sg me i).1)) (.var 3 to) (.var 4 sg) (.var 5 me) (.var 6 (kR s to sg me i).2.1) (.var 7 (kR s to sg me i).2.2) (.var 24 (rcM 0)))) (by simp [HMd]) ?_
   rw [m_it]
   refine ⟨fun h=>⟨decide_eq_true (by omega),h,leB_iff.2 (by rw [al];omega),?_,?_,?_,fun hp=>⟨?_,isSt_refl,?_⟩,fun hp=>?_⟩,fun h=>?_⟩
   ·rw [er]
    unfold ptC;cases s.sg i<;>rfl
   ·rw [er];rfl
   ·rw [er];rfl
   ·rw [er];rfl
   ·refine ⟨him,.inr ?_⟩
    rw [i64_in (by omega)]
    refine m_next (E:=[some (⟨1,subL (arT s 13) (i*7) 7⟩:Blk)]) ?_
    rw [←hN G B hw to sg me (i+1),ki.tab];rfl
   ·rw [er] at hp
    exact absurd hpos (by have h:=of_decide_eq_false hp;exact h)
   ·exact absurd (of_decide_eq_false h) (by omega)
  ·refine dloop_ok (C:=(⟨Try.prog,G,B⟩:Ctx)) (K:=Dr Try.prog [] [] [] [] (yAt 2350 22 (fun _=>false) (.one (.bool (.lit true)) [.set 1 ⟨1,.row (.var 31 (setsL encP (kR s to sg me (i+1)).1)) (.lit 0)⟩,.set 2 ⟨1,.row (.var 31 (setsL encP (kR s to sg me (i+1)).1)) (.lit 1)⟩,.set 3 ⟨1,.row (.var 31 (setsL encP (kR s to sg me (i+1)).1)) (.lit 2)⟩,.set 4 ⟨1,.row (.var 31 (setsL encP (kR s to sg me (i+1)).1)) (.lit 3)⟩,.set 5 ⟨1,.row (.var 31 (setsL encP (kR s to sg me (i+1)).1)) (.lit 4)⟩,.set 6 ⟨1,.row (.var 31 (setsL encP (kR s to sg me (i+1)).1)) (.lit 5)⟩,.set 7 ⟨1,.row (.var 31 (setsL encP (kR s to sg me (i+1)).1)) (.lit 6)⟩,.set 8 ⟨1,.row (.var 31 (setsL encP (kR s to sg me (i+1)).1)) (.lit 7)⟩,.set 9 ⟨1,.row (.var 31 (setsL encP (kR s to sg me (i+1)).1)) (.lit 8)⟩,.set 10 ⟨1,.row (.var 31 (setsL encP (kR s to sg me (i+1)).1)) (.lit 9)⟩,.set 11 ⟨1,.row (.var 31 (setsL encP (kR s to sg me (i+1)).1)) (.lit 10)⟩,.set 12 ⟨1,.row (.var 31 (setsL encP (kR s to sg me (i+1)).1)) (.lit 11)⟩,.set 13 ⟨1,.row (.var 31 (setsL encP (kR s to sg me (i+1)).1)) (.lit 12)⟩,.set 18 ⟨1,.of [.bool (.var 32 (kR s to sg me (i+1)).2.1)]⟩,.set 20 ⟨1,.of [.bool (.var 33 (kR s to sg me (i+1)).2.2)]⟩])) 23) (dgoodr (mix G B) (by kernel_rfl) .nil .nil .none no_y) (fuel:=300) (n0:=60) (m:=23) (c:=loopN Try.f76 0)
    (vs:=[.yld 22,.agg (.var 25 (arT s 13)),.int .i64 (.ofN (.var 35 i))]) (H:=(HMd (.var 1 (encT 1 (kR s to sg me i).1)) (.var 2 (setsL encP (kR s to sg me i).1)) (.var 3 to) (.var 4 sg) (.var 5 me) (.var 6 (kR s to sg me i).2.1) (.var 7 (kR s to sg me i).2.2) (.var 24 (rcM 0)))) (by simp [HMd]) ?_
   rw [m_it]
   refine ⟨fun h=>⟨decide_eq_true (by omega),h,leB_iff.2 (by rw [al];omega),?_,?_,?_,fun hp=>?_,fun hp=>?_⟩,fun h=>?_⟩
   ·rw [er]
    unfold ptC;cases s.sg i<;>rfl
   ·rw [er];rfl
   ·rw [er];rfl
   ·rw [er] at hp
    exact absurd (show 0<(s.at_ i).num from of_decide_eq_true hp) hpos
   ·refine ⟨him,.inr ?_⟩
    rw [i64_in (by omega)]
    refine m_next (E:=[some (⟨1,subL (arT s 13) (i*7) 7⟩:Blk)]) ?_
    have e3:(kR s to sg me (i+1))=(kR s to sg me i):=by
     show (if 0<(s.at_ i).num then _ else _)=_
     rw [if_neg hpos]
    unfold hpN
    rw [e3]
    show _=hpN s to sg me i++_
    rw [eH];rfl
   ·exact absurd (of_decide_eq_false h) (by omega)
 ·have:i=13:=by omega
  subst this
  refine dloop_ok (C:=(⟨Try.prog,G,B⟩:Ctx)) (K:=Dr Try.prog [] [] [] [] (yAt 2350 22 (fun _=>false) (.one (.bool (.lit true)) [.set 1 ⟨1,.row (.var 31 []) (.lit 0)⟩,.set 2 ⟨1,.row (.var 31 []) (.lit 1)⟩,.set 3 ⟨1,.row (.var 31 []) (.lit 2)⟩,.set 4 ⟨1,.row (.var 31 []) (.lit 3)⟩,.set 5 ⟨1,.row (.var 31 []) (.lit 4)⟩,.set 6 ⟨1,.row (.var 31 []) (.lit 5)⟩,.set 7 ⟨1,.row (.var 31 []) (.lit 6)⟩,.set 8 ⟨1,.row (.var 31 []) (.lit 7)⟩,.set 9 ⟨1,.row (.var 31 []) (.lit 8)⟩,.set 10 ⟨1,.row (.var 31 []) (.lit 9)⟩,.set 11 ⟨1,.row (.var 31 []) (.lit 10)⟩,.set 12 ⟨1,.row (.var 31 []) (.lit 11)⟩,.set 13 ⟨1,.row (.var 31 []) (.lit 12)⟩,.set 18 ⟨1,.of [.bool (.var 32 true)]⟩,.set 20 ⟨1,.of [.bool (.var 33 true)]⟩])) 23) (dgoodr (mix G B) (by kernel_rfl) .nil .nil .none no_y) (fuel:=300) (n0:=60) (m:=23) (c:=loopN Try.f76 0)
   (vs:=[.yld 22,.agg (.var 25 (arT s 13)),.int .i64 (.ofN (.var 35 13))]) (H:=(HMd (.var 1 (encT 1 (kR s to sg me 13).1)) (.var 2 (setsL encP (kR s to sg me 13).1)) (.var 3 to) (.var 4 sg) (.var 5 me) (.var 6 (kR s to sg me 13).2.1) (.var 7 (kR s to sg me 13).2.2) (.var 24 (rcM 0)))) (by simp [HMd]) ?_
  rw [m_it]
  refine ⟨fun h=>absurd (of_decide_eq_true h) (by omega),fun h=>⟨rfl,by simp [wk],?_⟩⟩
  rw [eH];rfl
end Go.Am
