/-
  Two sets are the same: the program's answer, and the document's. Processes: two sets of a family are the same.
-/
import Derived.Test.YtkabjomhnddnoaaPart11
import Derived.Test.YtkabjomhnddnoaaPart20
import Derived.Test.YtkabjomhnddnoaaBase5
import Derived.Test.YtkabjomhnddnoaaPart19
namespace Go.Am
open Go.Proofs Crc
set_option maxRecDepth 100000
def wC (ls:List Lf) (l:EL):EL:=.of (leafsD l (.lit 0) ls)
def lsP:List Lf:=.bool::List.replicate 18 (.int .u32)
def lsR:List Lf:=List.replicate 32 .bool++List.replicate 16 (.int .u32)
theorem t22 (G:Nat→List AV) (cs ds:List AV) (Q:Ex→List AV→Hp→Prop) (R:AV→Hp→Prop):vT G Q R (dcall (Dc Try.prog [55] [] [] 0) 200 10 Try.f24 [.ptr (.rw 0) (.lit 0),.ptr (.rw 1) (.lit 0)] [some ⟨1,wC lsP (.var 1 cs)⟩,some ⟨1,wC lsP (.var 2 ds)⟩] 2)=(
  (getB cs (0)=true→
 (getB ds (0)=true→
 R (.bool ((((getB cs (0):Bool)==getB ds (0))&&(((getI cs (1):Int)==getI ds (1))&&(((getI cs (2):Int)==getI ds (2))&&(((getI cs (3):Int)==getI ds (3))&&(((getI cs (4):Int)==getI ds (4))&&(((getI cs (5):Int)==getI ds (5))&&(((getI cs (6):Int)==getI ds (6))&&(((getI cs (7):Int)==getI ds (7))&&(((getI cs (8):Int)==getI ds (8))&&(((getI cs (9):Int)==getI ds (9))&&(((getI cs (10):Int)==getI ds (10))&&(((getI cs (11):Int)==getI ds (11))&&(((getI cs (12):Int)==getI ds (12))&&(((getI cs (13):Int)==getI ds (13))&&(((getI cs (14):Int)==getI ds (14))&&(((getI cs (15):Int)==getI ds (15))&&(((getI cs (16):Int)==getI ds (16))&&(((getI cs (17):Int)==getI ds (17))&&((getI cs (18):Int)==getI ds (18)))))))))))))))))))))) [some ⟨1,([.bool (getB cs (0)),.int .u32 (getI cs (1)),.int .u32 (getI cs (2)),.int .u32 (getI cs (3)),.int .u32 (getI cs (4)),.int .u32 (getI cs (5)),.int .u32 (getI cs (6)),.int .u32 (getI cs (7)),.int .u32 (getI cs (8)),.int .u32 (getI cs (9)),.int .u32 (getI cs (10)),.int .u32 (getI cs (11)),.int .u32 (getI cs (12)),.int .u32 (getI cs (13)),.int .u32 (getI cs (14)),.int .u32 (getI cs (15)),.int .u32 (getI cs (16)),.int .u32 (getI cs (17)),.int .u32 (getI cs (18))]:List AV)⟩,some ⟨1,([.bool (getB ds (0)),.int .u32 (getI ds (1)),.int .u32 (getI ds (2)),.int .u32 (getI ds (3)),.int .u32 (getI ds (4)),.int .u32 (getI ds (5)),.int .u32 (getI ds (6)),.int .u32 (getI ds (7)),.int .u32 (getI ds (8)),.int .u32 (getI ds (9)),.int .u32 (getI ds (10)),.int .u32 (getI ds (11)),.int .u32 (getI ds (12)),.int .u32 (getI ds (13)),.int .u32 (getI ds (14)),.int .u32 (getI ds (15)),.int .u32 (getI ds (16)),.int .u32 (getI ds (17)),.int .u32 (getI ds (18))]:List AV)⟩])∧
 (getB ds (0)=false→
 R (.bool (((getB cs (0):Bool)==getB ds (0)))) [some ⟨1,([.bool (getB cs (0)),.int .u32 (getI cs (1)),.int .u32 (getI cs (2)),.int .u32 (getI cs (3)),.int .u32 (getI cs (4)),.int .u32 (getI cs (5)),.int .u32 (getI cs (6)),.int .u32 (getI cs (7)),.int .u32 (getI cs (8)),.int .u32 (getI cs (9)),.int .u32 (getI cs (10)),.int .u32 (getI cs (11)),.int .u32 (getI cs (12)),.int .u32 (getI cs (13)),.int .u32 (getI cs (14)),.int .u32 (getI cs (15)),.int .u32 (getI cs (16)),.int .u32 (getI cs (17)),.int .u32 (getI cs (18))]:List AV)⟩,some ⟨1,([.bool (getB ds (0)),.int .u32 (getI ds (1)),.int .u32 (getI ds (2)),.int .u32 (getI ds (3)),.int .u32 (getI ds (4)),.int .u32 (getI ds (5)),.int .u32 (getI ds (6)),.int .u32 (getI ds (7)),.int .u32 (getI ds (8)),.int .u32 (getI ds (9)),.int .u32 (getI ds (10)),.int .u32 (getI ds (11)),.int .u32 (getI ds (12)),.int .u32 (getI ds (13)),.int .u32 (getI ds (14)),.int .u32 (getI ds (15)),.int .u32 (getI ds (16)),.int .u32 (getI ds (17)),.int .u32 (getI ds (18))]:List AV)⟩]))∧
 (getB cs (0)=false→
 R (.bool (((getB cs (0):Bool)==getB ds (0)))) [some ⟨1,([.bool (getB cs (0)),.int .u32 (getI cs (1)),.int .u32 (getI cs (2)),.int .u32 (getI cs (3)),.int .u32 (getI cs (4)),.int .u32 (getI cs (5)),.int .u32 (getI cs (6)),.int .u32 (getI cs (7)),.int .u32 (getI cs (8)),.int .u32 (getI cs (9)),.int .u32 (getI cs (10)),.int .u32 (getI cs (11)),.int .u32 (getI cs (12)),.int .u32 (getI cs (13)),.int .u32 (getI cs (14)),.int .u32 (getI cs (15)),.int .u32 (getI cs (16)),.int .u32 (getI cs (17)),.int .u32 (getI cs (18))]:List AV)⟩,some ⟨1,([.bool (getB ds (0)),.int .u32 (getI ds (1)),.int .u32 (getI ds (2)),.int .u32 (getI ds (3)),.int .u32 (getI ds (4)),.int .u32 (getI ds (5)),.int .u32 (getI ds (6)),.int .u32 (getI ds (7)),.int .u32 (getI ds (8)),.int .u32 (getI ds (9)),.int .u32 (getI ds (10)),.int .u32 (getI ds (11)),.int .u32 (getI ds (12)),.int .u32 (getI ds (13)),.int .u32 (getI ds (14)),.int .u32 (getI ds (15)),.int .u32 (getI ds (16)),.int .u32 (getI ds (17)),.int .u32 (getI ds (18))]:List AV)⟩])):=by kernel_rfl
theorem t22s (G:Nat→List AV) (cs:List AV) (Q:Ex→List AV→Hp→Prop) (R:AV→Hp→Prop):vT G Q R (dcall (Dc Try.prog [55] [] [] 0) 200 10 Try.f24 [.ptr (.rw 0) (.lit 0),.ptr (.rw 0) (.lit 0)] [some ⟨1,wC lsP (.var 1 cs)⟩] 1)=(
  (getB cs (0)=true→
 getB cs (0)=true∧
 R (.bool ((((getB cs (0):Bool)==getB cs (0))&&(((getI cs (1):Int)==getI cs (1))&&(((getI cs (2):Int)==getI cs (2))&&(((getI cs (3):Int)==getI cs (3))&&(((getI cs (4):Int)==getI cs (4))&&(((getI cs (5):Int)==getI cs (5))&&(((getI cs (6):Int)==getI cs (6))&&(((getI cs (7):Int)==getI cs (7))&&(((getI cs (8):Int)==getI cs (8))&&(((getI cs (9):Int)==getI cs (9))&&(((getI cs (10):Int)==getI cs (10))&&(((getI cs (11):Int)==getI cs (11))&&(((getI cs (12):Int)==getI cs (12))&&(((getI cs (13):Int)==getI cs (13))&&(((getI cs (14):Int)==getI cs (14))&&(((getI cs (15):Int)==getI cs (15))&&(((getI cs (16):Int)==getI cs (16))&&(((getI cs (17):Int)==getI cs (17))&&((getI cs (18):Int)==getI cs (18)))))))))))))))))))))) [some ⟨1,([.bool (getB cs (0)),.int .u32 (getI cs (1)),.int .u32 (getI cs (2)),.int .u32 (getI cs (3)),.int .u32 (getI cs (4)),.int .u32 (getI cs (5)),.int .u32 (getI cs (6)),.int .u32 (getI cs (7)),.int .u32 (getI cs (8)),.int .u32 (getI cs (9)),.int .u32 (getI cs (10)),.int .u32 (getI cs (11)),.int .u32 (getI cs (12)),.int .u32 (getI cs (13)),.int .u32 (getI cs (14)),.int .u32 (getI cs (15)),.int .u32 (getI cs (16)),.int .u32 (getI cs (17)),.int .u32 (getI cs (18))]:List AV)⟩])∧
 (getB cs (0)=false→
 R (.bool (((getB cs (0):Bool)==getB cs (0)))) [some ⟨1,([.bool (getB cs (0)),.int .u32 (getI cs (1)),.int .u32 (getI cs (2)),.int .u32 (getI cs (3)),.int .u32 (getI cs (4)),.int .u32 (getI cs (5)),.int .u32 (getI cs (6)),.int .u32 (getI cs (7)),.int .u32 (getI cs (8)),.int .u32 (getI cs (9)),.int .u32 (getI cs (10)),.int .u32 (getI cs (11)),.int .u32 (getI cs (12)),.int .u32 (getI cs (13)),.int .u32 (getI cs (14)),.int .u32 (getI cs (15)),.int .u32 (getI cs (16)),.int .u32 (getI cs (17)),.int .u32 (getI cs (18))]:List AV)⟩])):=by kernel_rfl
theorem t23 (G:Nat→List AV) (cs ds:List AV) (Q:Ex→List AV→Hp→Prop) (R:AV→Hp→Prop):vT G Q R (dcall (Dc Try.prog [] [] [] 0) 200 10 Try.f52 [.ptr (.rw 0) (.lit 0),.ptr (.rw 1) (.lit 0)] [some ⟨1,wC lsR (.var 1 cs)⟩,some ⟨1,wC lsR (.var 2 ds)⟩] 2)=(
  R (.bool (((((getB cs (0):Bool)==getB ds (0))&&(((getB cs (1):Bool)==getB ds (1))&&(((getB cs (2):Bool)==getB ds (2))&&(((getB cs (3):Bool)==getB ds (3))&&(((getB cs (4):Bool)==getB ds (4))&&(((getB cs (5):Bool)==getB ds (5))&&(((getB cs (6):Bool)==getB ds (6))&&(((getB cs (7):Bool)==getB ds (7))&&(((getB cs (8):Bool)==getB ds (8))&&(((getB cs (9):Bool)==getB ds (9))&&(((getB cs (10):Bool)==getB ds (10))&&(((getB cs (11):Bool)==getB ds (11))&&(((getB cs (12):Bool)==getB ds (12))&&(((getB cs (13):Bool)==getB ds (13))&&(((getB cs (14):Bool)==getB ds (14))&&((getB cs (15):Bool)==getB ds (15)))))))))))))))))&&((((getB cs (16):Bool)==getB ds (16))&&(((getB cs (17):Bool)==getB ds (17))&&(((getB cs (18):Bool)==getB ds (18))&&(((getB cs (19):Bool)==getB ds (19))&&(((getB cs (20):Bool)==getB ds (20))&&(((getB cs (21):Bool)==getB ds (21))&&(((getB cs (22):Bool)==getB ds (22))&&(((getB cs (23):Bool)==getB ds (23))&&(((getB cs (24):Bool)==getB ds (24))&&(((getB cs (25):Bool)==getB ds (25))&&(((getB cs (26):Bool)==getB ds (26))&&(((getB cs (27):Bool)==getB ds (27))&&(((getB cs (28):Bool)==getB ds (28))&&(((getB cs (29):Bool)==getB ds (29))&&(((getB cs (30):Bool)==getB ds (30))&&((getB cs (31):Bool)==getB ds (31)))))))))))))))))&&(((getI cs (32):Int)==getI ds (32))&&(((getI cs (33):Int)==getI ds (33))&&(((getI cs (34):Int)==getI ds (34))&&(((getI cs (35):Int)==getI ds (35))&&(((getI cs (36):Int)==getI ds (36))&&(((getI cs (37):Int)==getI ds (37))&&(((getI cs (38):Int)==getI ds (38))&&(((getI cs (39):Int)==getI ds (39))&&(((getI cs (40):Int)==getI ds (40))&&(((getI cs (41):Int)==getI ds (41))&&(((getI cs (42):Int)==getI ds (42))&&(((getI cs (43):Int)==getI ds (43))&&(((getI cs (44):Int)==getI ds (44))&&(((getI cs (45):Int)==getI ds (45))&&(((getI cs (46):Int)==getI ds (46))&&((getI cs (47):Int)==getI ds (47))))))))))))))))))))) [some ⟨1,([.bool (getB cs (0)),.bool (getB cs (1)),.bool (getB cs (2)),.bool (getB cs (3)),.bool (getB cs (4)),.bool (getB cs (5)),.bool (getB cs (6)),.bool (getB cs (7)),.bool (getB cs (8)),.bool (getB cs (9)),.bool (getB cs (10)),.bool (getB cs (11)),.bool (getB cs (12)),.bool (getB cs (13)),.bool (getB cs (14)),.bool (getB cs (15)),.bool (getB cs (16)),.bool (getB cs (17)),.bool (getB cs (18)),.bool (getB cs (19)),.bool (getB cs (20)),.bool (getB cs (21)),.bool (getB cs (22)),.bool (getB cs (23)),.bool (getB cs (24)),.bool (getB cs (25)),.bool (getB cs (26)),.bool (getB cs (27)),.bool (getB cs (28)),.bool (getB cs (29)),.bool (getB cs (30)),.bool (getB cs (31)),.int .u32 (getI cs (32)),.int .u32 (getI cs (33)),.int .u32 (getI cs (34)),.int .u32 (getI cs (35)),.int .u32 (getI cs (36)),.int .u32 (getI cs (37)),.int .u32 (getI cs (38)),.int .u32 (getI cs (39)),.int .u32 (getI cs (40)),.int .u32 (getI cs (41)),.int .u32 (getI cs (42)),.int .u32 (getI cs (43)),.int .u32 (getI cs (44)),.int .u32 (getI cs (45)),.int .u32 (getI cs (46)),.int .u32 (getI cs (47))]:List AV)⟩,some ⟨1,([.bool (getB ds (0)),.bool (getB ds (1)),.bool (getB ds (2)),.bool (getB ds (3)),.bool (getB ds (4)),.bool (getB ds (5)),.bool (getB ds (6)),.bool (getB ds (7)),.bool (getB ds (8)),.bool (getB ds (9)),.bool (getB ds (10)),.bool (getB ds (11)),.bool (getB ds (12)),.bool (getB ds (13)),.bool (getB ds (14)),.bool (getB ds (15)),.bool (getB ds (16)),.bool (getB ds (17)),.bool (getB ds (18)),.bool (getB ds (19)),.bool (getB ds (20)),.bool (getB ds (21)),.bool (getB ds (22)),.bool (getB ds (23)),.bool (getB ds (24)),.bool (getB ds (25)),.bool (getB ds (26)),.bool (getB ds (27)),.bool (getB ds (28)),.bool (getB ds (29)),.bool (getB ds (30)),.bool (getB ds (31)),.int .u32 (getI ds (32)),.int .u32 (getI ds (33)),.int .u32 (getI ds (34)),.int .u32 (getI ds (35)),.int .u32 (getI ds (36)),.int .u32 (getI ds (37)),.int .u32 (getI ds (38)),.int .u32 (getI ds (39)),.int .u32 (getI ds (40)),.int .u32 (getI ds (41)),.int .u32 (getI ds (42)),.int .u32 (getI ds (43)),.int .u32 (getI ds (44)),.int .u32 (getI ds (45)),.int .u32 (getI ds (46)),.int .u32 (getI ds (47))]:List AV)⟩]):=by kernel_rfl
theorem range16:List.range 16=[0,1,2,3,4,5,6,7,8,9,10,11,12,13,14,15]:=rfl
theorem conjP (p q:Sg):(((getB (encP p) (0):Bool)==getB (encP q) (0))&&(((getI (encP p) (1):Int)==getI (encP q) (1))&&(((getI (encP p) (2):Int)==getI (encP q) (2))&&(((getI (encP p) (3):Int)==getI (encP q) (3))&&(((getI (encP p) (4):Int)==getI (encP q) (4))&&(((getI (encP p) (5):Int)==getI (encP q) (5))&&(((getI (encP p) (6):Int)==getI (encP q) (6))&&(((getI (encP p) (7):Int)==getI (encP q) (7))&&(((getI (encP p) (8):Int)==getI (encP q) (8))&&(((getI (encP p) (9):Int)==getI (encP q) (9))&&(((getI (encP p) (10):Int)==getI (encP q) (10))&&(((getI (encP p) (11):Int)==getI (encP q) (11))&&(((getI (encP p) (12):Int)==getI (encP q) (12))&&(((getI (encP p) (13):Int)==getI (encP q) (13))&&(((getI (encP p) (14):Int)==getI (encP q) (14))&&(((getI (encP p) (15):Int)==getI (encP q) (15))&&(((getI (encP p) (16):Int)==getI (encP q) (16))&&(((getI (encP p) (17):Int)==getI (encP q) (17))&&((getI (encP p) (18):Int)==getI (encP q) (18))))))))))))))))))))=sameB p q:=by
 show (((true:Bool)==true)&&(((u p.wt:Int)==u q.wt)&&(((u p.hd:Int)==u q.hd)&&(((u (p.at_ 0):Int)==u (q.at_ 0))&&(((u (p.at_ 1):Int)==u (q.at_ 1))&&(((u (p.at_ 2):Int)==u (q.at_ 2))&&(((u (p.at_ 3):Int)==u (q.at_ 3))&&(((u (p.at_ 4):Int)==u (q.at_ 4))&&(((u (p.at_ 5):Int)==u (q.at_ 5))&&(((u (p.at_ 6):Int)==u (q.at_ 6))&&(((u (p.at_ 7):Int)==u (q.at_ 7))&&(((u (p.at_ 8):Int)==u (q.at_ 8))&&(((u (p.at_ 9):Int)==u (q.at_ 9))&&(((u (p.at_ 10):Int)==u (q.at_ 10))&&(((u (p.at_ 11):Int)==u (q.at_ 11))&&(((u (p.at_ 12):Int)==u (q.at_ 12))&&(((u (p.at_ 13):Int)==u (q.at_ 13))&&(((u (p.at_ 14):Int)==u (q.at_ 14))&&((u (p.at_ 15):Int)==u (q.at_ 15))))))))))))))))))))=sameB p q
 simp only [u_beq,sameB,range16,List.all_cons,List.all_nil,Bool.and_true,beq_self_eq_true,Bool.true_and]
theorem hi16:∀ j,j<32→16≤j→(65534#32).getLsbD j=false∧(65532#32).getLsbD j=false:=by decide
theorem bits_eq {x y m:Wd} (hm:∀ j,j<32→16≤j→m.getLsbD j=false) (hx:x &&& m=x) (hy:y &&& m=y):((List.range 16).all fun i=>x.getLsbD i==y.getLsbD i)=(x==y):=by
 rw [Bool.eq_iff_iff]
 simp only [List.all_eq_true,List.mem_range,beq_iff_eq]
 constructor
 ·intro h
  apply BitVec.eq_of_getLsbD_eq
  intro j hj
  by_cases h16:j<16
  ·exact h j h16
  ·have a1:=hm j hj (by omega)
   rw [←hx,←hy,BitVec.getLsbD_and,BitVec.getLsbD_and,a1,Bool.and_false,Bool.and_false]
 ·rintro rfl _ _;rfl
theorem conjR (p q:Sg):((((getB (encR p) (0):Bool)==getB (encR q) (0))&&(((getB (encR p) (1):Bool)==getB (encR q) (1))&&(((getB (encR p) (2):Bool)==getB (encR q) (2))&&(((getB (encR p) (3):Bool)==getB (encR q) (3))&&(((getB (encR p) (4):Bool)==getB (encR q) (4))&&(((getB (encR p) (5):Bool)==getB (encR q) (5))&&(((getB (encR p) (6):Bool)==getB (encR q) (6))&&(((getB (encR p) (7):Bool)==getB (encR q) (7))&&(((getB (encR p) (8):Bool)==getB (encR q) (8))&&(((getB (encR p) (9):Bool)==getB (encR q) (9))&&(((getB (encR p) (10):Bool)==getB (encR q) (10))&&(((getB (encR p) (11):Bool)==getB (encR q) (11))&&(((getB (encR p) (12):Bool)==getB (encR q) (12))&&(((getB (encR p) (13):Bool)==getB (encR q) (13))&&(((getB (encR p) (14):Bool)==getB (encR q) (14))&&((getB (encR p) (15):Bool)==getB (encR q) (15)))))))))))))))))&&((((getB (encR p) (16):Bool)==getB (encR q) (16))&&(((getB (encR p) (17):Bool)==getB (encR q) (17))&&(((getB (encR p) (18):Bool)==getB (encR q) (18))&&(((getB (encR p) (19):Bool)==getB (encR q) (19))&&(((getB (encR p) (20):Bool)==getB (encR q) (20))&&(((getB (encR p) (21):Bool)==getB (encR q) (21))&&(((getB (encR p) (22):Bool)==getB (encR q) (22))&&(((getB (encR p) (23):Bool)==getB (encR q) (23))&&(((getB (encR p) (24):Bool)==getB (encR q) (24))&&(((getB (encR p) (25):Bool)==getB (encR q) (25))&&(((getB (encR p) (26):Bool)==getB (encR q) (26))&&(((getB (encR p) (27):Bool)==getB (encR q) (27))&&(((getB (encR p) (28):Bool)==getB (encR q) (28))&&(((getB (encR p) (29):Bool)==getB (encR q) (29))&&(((getB (encR p) (30):Bool)==getB (encR q) (30))&&((getB (encR p) (31):Bool)==getB (encR q) (31)))))))))))))))))&&(((getI (encR p) (32):Int)==getI (encR q) (32))&&(((getI (encR p) (33):Int)==getI (encR q) (33))&&(((getI (encR p) (34):Int)==getI (encR q) (34))&&(((getI (encR p) (35):Int)==getI (encR q) (35))&&(((getI (encR p) (36):Int)==getI (encR q) (36))&&(((getI (encR p) (37):Int)==getI (encR q) (37))&&(((getI (encR p) (38):Int)==getI (encR q) (38))&&(((getI (encR p) (39):Int)==getI (encR q) (39))&&(((getI (encR p) (40):Int)==getI (encR q) (40))&&(((getI (encR p) (41):Int)==getI (encR q) (41))&&(((getI (encR p) (42):Int)==getI (encR q) (42))&&(((getI (encR p) (43):Int)==getI (encR q) (43))&&(((getI (encR p) (44):Int)==getI (encR q) (44))&&(((getI (encR p) (45):Int)==getI (encR q) (45))&&(((getI (encR p) (46):Int)==getI (encR q) (46))&&((getI (encR p) (47):Int)==getI (encR q) (47)))))))))))))))))))=sameB p q:=by
 have e1:=bits_eq (fun j h1 h2=>(hi16 j h1 h2).1) p.hw q.hw
 have e2:=bits_eq (fun j h1 h2=>(hi16 j h1 h2).2) p.hh q.hh
 show ((((p.wt.getLsbD 0:Bool)==q.wt.getLsbD 0)&&(((p.wt.getLsbD 1:Bool)==q.wt.getLsbD 1)&&(((p.wt.getLsbD 2:Bool)==q.wt.getLsbD 2)&&(((p.wt.getLsbD 3:Bool)==q.wt.getLsbD 3)&&(((p.wt.getLsbD 4:Bool)==q.wt.getLsbD 4)&&(((p.wt.getLsbD 5:Bool)==q.wt.getLsbD 5)&&(((p.wt.getLsbD 6:Bool)==q.wt.getLsbD 6)&&(((p.wt.getLsbD 7:Bool)==q.wt.getLsbD 7)&&(((p.wt.getLsbD 8:Bool)==q.wt.getLsbD 8)&&(((p.wt.getLsbD 9:Bool)==q.wt.getLsbD 9)&&(((p.wt.getLsbD 10:Bool)==q.wt.getLsbD 10)&&(((p.wt.getLsbD 11:Bool)==q.wt.getLsbD 11)&&(((p.wt.getLsbD 12:Bool)==q.wt.getLsbD 12)&&(((p.wt.getLsbD 13:Bool)==q.wt.getLsbD 13)&&(((p.wt.getLsbD 14:Bool)==q.wt.getLsbD 14)&&((p.wt.getLsbD 15:Bool)==q.wt.getLsbD 15))))))))))))))))&&((((p.hd.getLsbD 0:Bool)==q.hd.getLsbD 0)&&(((p.hd.getLsbD 1:Bool)==q.hd.getLsbD 1)&&(((p.hd.getLsbD 2:Bool)==q.hd.getLsbD 2)&&(((p.hd.getLsbD 3:Bool)==q.hd.getLsbD 3)&&(((p.hd.getLsbD 4:Bool)==q.hd.getLsbD 4)&&(((p.hd.getLsbD 5:Bool)==q.hd.getLsbD 5)&&(((p.hd.getLsbD 6:Bool)==q.hd.getLsbD 6)&&(((p.hd.getLsbD 7:Bool)==q.hd.getLsbD 7)&&(((p.hd.getLsbD 8:Bool)==q.hd.getLsbD 8)&&(((p.hd.getLsbD 9:Bool)==q.hd.getLsbD 9)&&(((p.hd.getLsbD 10:Bool)==q.hd.getLsbD 10)&&(((p.hd.getLsbD 11:Bool)==q.hd.getLsbD 11)&&(((p.hd.getLsbD 12:Bool)==q.hd.getLsbD 12)&&(((p.hd.getLsbD 13:Bool)==q.hd.getLsbD 13)&&(((p.hd.getLsbD 14:Bool)==q.hd.getLsbD 14)&&((p.hd.getLsbD 15:Bool)==q.hd.getLsbD 15))))))))))))))))&&(((u (p.at_ 0):Int)==u (q.at_ 0))&&(((u (p.at_ 1):Int)==u (q.at_ 1))&&(((u (p.at_ 2):Int)==u (q.at_ 2))&&(((u (p.at_ 3):Int)==u (q.at_ 3))&&(((u (p.at_ 4):Int)==u (q.at_ 4))&&(((u (p.at_ 5):Int)==u (q.at_ 5))&&(((u (p.at_ 6):Int)==u (q.at_ 6))&&(((u (p.at_ 7):Int)==u (q.at_ 7))&&(((u (p.at_ 8):Int)==u (q.at_ 8))&&(((u (p.at_ 9):Int)==u (q.at_ 9))&&(((u (p.at_ 10):Int)==u (q.at_ 10))&&(((u (p.at_ 11):Int)==u (q.at_ 11))&&(((u (p.at_ 12):Int)==u (q.at_ 12))&&(((u (p.at_ 13):Int)==u (q.at_ 13))&&(((u (p.at_ 14):Int)==u (q.at_ 14))&&((u (p.at_ 15):Int)==u (q.at_ 15)))))))))))))))))))=sameB p q
 unfold sameB
 rw [←e1,←e2]
 simp only [u_beq,range16,List.all_cons,List.all_nil,Bool.and_true,Bool.and_assoc]
theorem conjS (p:Sg):(((getB (encP p) (0):Bool)==getB (encP p) (0))&&(((getI (encP p) (1):Int)==getI (encP p) (1))&&(((getI (encP p) (2):Int)==getI (encP p) (2))&&(((getI (encP p) (3):Int)==getI (encP p) (3))&&(((getI (encP p) (4):Int)==getI (encP p) (4))&&(((getI (encP p) (5):Int)==getI (encP p) (5))&&(((getI (encP p) (6):Int)==getI (encP p) (6))&&(((getI (encP p) (7):Int)==getI (encP p) (7))&&(((getI (encP p) (8):Int)==getI (encP p) (8))&&(((getI (encP p) (9):Int)==getI (encP p) (9))&&(((getI (encP p) (10):Int)==getI (encP p) (10))&&(((getI (encP p) (11):Int)==getI (encP p) (11))&&(((getI (encP p) (12):Int)==getI (encP p) (12))&&(((getI (encP p) (13):Int)==getI (encP p) (13))&&(((getI (encP p) (14):Int)==getI (encP p) (14))&&(((getI (encP p) (15):Int)==getI (encP p) (15))&&(((getI (encP p) (16):Int)==getI (encP p) (16))&&(((getI (encP p) (17):Int)==getI (encP p) (17))&&((getI (encP p) (18):Int)==getI (encP p) (18))))))))))))))))))))=true:=by simp
theorem wC_P (G:Nat→List AV) (p:Sg) (j:Nat):vL G (wC lsP (.var j (encP p)))=encP p:=rfl
theorem wC_R (G:Nat→List AV) (p:Sg) (j:Nat):vL G (wC lsR (.var j (encR p)))=encR p:=rfl
theorem p_same (G:Nat→List AV) (B:Nat) (p q:Sg):ACalls (⟨Try.prog,G,B⟩:Ctx) 24 [.ptr (.rw 0) 0,.ptr (.rw 1) 0] [some ⟨1,encP p⟩,some ⟨1,encP q⟩] fun v H'=>v=.bool (sameB p q)∧H'.take 2=[some ⟨1,encP p⟩,some ⟨1,encP q⟩]:=by
 have key:=dcall_ok (C:=(⟨Try.prog,G,B⟩:Ctx)) (f:=24) (R:=fun v' H'=>v'=.bool (sameB p q)∧H'=[some ⟨1,encP p⟩,some ⟨1,encP q⟩]) (dgood (inl:=[55]) (sums:=[]) (ls:=[]) (M:=0) (cs:=[]) (mix G B) (by kernel_rfl) .nil .nil) (by kernel_rfl) (by kernel_rfl) (by kernel_rfl) (fuel:=200) (n0:=10) (keep:=2) (args:=[.ptr (.rw 0) (.lit 0),.ptr (.rw 1) (.lit 0)]) (H:=[some ⟨1,wC lsP (.var 1 (encP p))⟩,some ⟨1,wC lsP (.var 2 (encP q))⟩]) (by
  rw [t22,conjP]
  exact ⟨fun _=>⟨fun _=>⟨rfl,rfl⟩,fun h=>(by cases h)⟩,fun h=>(by cases h)⟩)
 simp only [vVs,vV,vR,vN,vHp,List.map_cons,List.map_nil,Option.map_some,vBlk,wC_P] at key
 exact key
theorem p_same1 (G:Nat→List AV) (B:Nat) (p:Sg):ACalls (⟨Try.prog,G,B⟩:Ctx) 24 [.ptr (.rw 0) 0,.ptr (.rw 0) 0] [some ⟨1,encP p⟩] fun v H'=>v=.bool true∧H'.take 1=[some ⟨1,encP p⟩]:=by
 have key:=dcall_ok (C:=(⟨Try.prog,G,B⟩:Ctx)) (f:=24) (R:=fun v' H'=>v'=.bool true∧H'=[some ⟨1,encP p⟩]) (dgood (inl:=[55]) (sums:=[]) (ls:=[]) (M:=0) (cs:=[]) (mix G B) (by kernel_rfl) .nil .nil) (by kernel_rfl) (by kernel_rfl) (by kernel_rfl) (fuel:=200) (n0:=10) (keep:=1) (args:=[.ptr (.rw 0) (.lit 0),.ptr (.rw 0) (.lit 0)]) (H:=[some ⟨1,wC lsP (.var 1 (encP p))⟩]) (by
  rw [t22s,conjS]
  exact ⟨fun _=>⟨rfl,rfl,rfl⟩,fun h=>(by cases h)⟩)
 simp only [vVs,vV,vR,vN,vHp,List.map_cons,List.map_nil,Option.map_some,vBlk,wC_P] at key
 exact key
theorem r_same (G:Nat→List AV) (B:Nat) (p q:Sg):ACalls (⟨Try.prog,G,B⟩:Ctx) 52 [.ptr (.rw 0) 0,.ptr (.rw 1) 0] [some ⟨1,encR p⟩,some ⟨1,encR q⟩] fun v H'=>v=.bool (sameB p q)∧H'.take 2=[some ⟨1,encR p⟩,some ⟨1,encR q⟩]:=by
 have key:=dcall_ok (C:=(⟨Try.prog,G,B⟩:Ctx)) (f:=52) (R:=fun v' H'=>v'=.bool (sameB p q)∧H'=[some ⟨1,encR p⟩,some ⟨1,encR q⟩]) (dgood (inl:=[]) (sums:=[]) (ls:=[]) (M:=0) (cs:=[]) (mix G B) (by kernel_rfl) .nil .nil) (by kernel_rfl) (by kernel_rfl) (by kernel_rfl) (fuel:=200) (n0:=10) (keep:=2) (args:=[.ptr (.rw 0) (.lit 0),.ptr (.rw 1) (.lit 0)]) (H:=[some ⟨1,wC lsR (.var 1 (encR p))⟩,some ⟨1,wC lsR (.var 2 (encR q))⟩]) (by
  rw [t23,conjR]
  exact ⟨rfl,rfl⟩)
 simp only [vVs,vV,vR,vN,vHp,List.map_cons,List.map_nil,Option.map_some,vBlk,wC_R] at key
 exact key
theorem sameU_enc (p q:Sg):sameU [.agg (encP p),.agg (encP q)]=sameB p q:=by simp only [sameU,decP_enc]
end Go.Am
namespace Go.Am
open Go.Proofs Crc
set_option maxRecDepth 100000
theorem s24a (G:Nat→List AV) (tb:List AV) (Q:Ex→List AV→Hp→Prop) (R:AV→Hp→Prop):vT G Q R (dcall (Dc Try.prog [55] [] [] 0) 100 10 Try.f24 [.nilp,.nilp] [] 0)=(
  R (.bool (true)) []):=by kernel_rfl
theorem s24b (G:Nat→List AV) (tb:List AV) (Q:Ex→List AV→Hp→Prop) (R:AV→Hp→Prop):vT G Q R (dcall (Dc Try.prog [55] [] [] 0) 100 10 Try.f24 [.nilp,.ptr (.rw 0) (.lit 0)] [some ⟨1,.var 1 tb⟩] 1)=(
  isB tb (0)=true∧
 R (.bool ((!(getB tb (0))))) [some ⟨1,tb⟩]):=by kernel_rfl
theorem s24c (G:Nat→List AV) (tb:List AV) (Q:Ex→List AV→Hp→Prop) (R:AV→Hp→Prop):vT G Q R (dcall (Dc Try.prog [55] [] [] 0) 100 10 Try.f24 [.ptr (.rw 0) (.lit 0),.nilp] [some ⟨1,.var 1 tb⟩] 1)=(
  isB tb (0)=true∧
 (getB tb (0)=true→
 isB tb (0)=true∧
 R (.bool ((!(getB tb (0))))) [some ⟨1,tb⟩])∧
 (getB tb (0)=false→
 isB tb (0)=true∧
 R (.bool ((!(getB tb (0))))) [some ⟨1,tb⟩])):=by kernel_rfl
theorem n_same0 (G:Nat→List AV) (B:Nat):ACalls (⟨Try.prog,G,B⟩:Ctx) 24 [.nilp,.nilp] [] fun v H'=>v=.bool true∧H'.take 0=[]:=by
 have:=dcall_ok (C:=(⟨Try.prog,G,B⟩:Ctx)) (f:=24) (args:=[.nilp,.nilp]) (H:=[]) (keep:=0) (R:=fun v H'=>v=.bool true∧H'=[]) (dgood (inl:=[55]) (sums:=[]) (ls:=[]) (M:=0) (cs:=[]) (mix G B) (by kernel_rfl) .nil .nil) (by kernel_rfl) (by kernel_rfl) (by kernel_rfl) (fuel:=100) (n0:=10) (by rw [s24a G []];exact ⟨rfl,rfl⟩)
 exact this
theorem n_same1 (G:Nat→List AV) (B:Nat) (p:Sg):ACalls (⟨Try.prog,G,B⟩:Ctx) 24 [.nilp,.ptr (.rw 0) 0] [some ⟨1,encP p⟩] fun v H'=>v=.bool false∧H'.take 1=[some ⟨1,encP p⟩]:=by
 have:=dcall_ok (C:=(⟨Try.prog,G,B⟩:Ctx)) (f:=24) (args:=[.nilp,.ptr (.rw 0) (.lit 0)]) (H:=[some ⟨1,.var 1 (encP p)⟩]) (keep:=1) (R:=fun v H'=>v=.bool false∧H'=[some ⟨1,encP p⟩]) (dgood (inl:=[55]) (sums:=[]) (ls:=[]) (M:=0) (cs:=[]) (mix G B) (by kernel_rfl) .nil .nil) (by kernel_rfl) (by kernel_rfl) (by kernel_rfl) (fuel:=100) (n0:=10) (by rw [s24b];exact ⟨rfl,rfl,rfl⟩)
 exact this
theorem n_same2 (G:Nat→List AV) (B:Nat) (p:Sg):ACalls (⟨Try.prog,G,B⟩:Ctx) 24 [.ptr (.rw 0) 0,.nilp] [some ⟨1,encP p⟩] fun v H'=>v=.bool false∧H'.take 1=[some ⟨1,encP p⟩]:=by
 have:=dcall_ok (C:=(⟨Try.prog,G,B⟩:Ctx)) (f:=24) (args:=[.ptr (.rw 0) (.lit 0),.nilp]) (H:=[some ⟨1,.var 1 (encP p)⟩]) (keep:=1) (R:=fun v H'=>v=.bool false∧H'=[some ⟨1,encP p⟩]) (dgood (inl:=[55]) (sums:=[]) (ls:=[]) (M:=0) (cs:=[]) (mix G B) (by kernel_rfl) .nil .nil) (by kernel_rfl) (by kernel_rfl) (by kernel_rfl) (fuel:=100) (n0:=10) (by rw [s24c];exact ⟨rfl,fun _=>⟨rfl,rfl,rfl⟩,fun h=>by cases h⟩)
 exact this
theorem DOut.rdA {C:Ctx} {f:FuncId} {args0:List AV} {args:List EV} {H:DHp} {θ:List Nat} {H0:Hp} {v:EV} {k:Nat} (hnd:θ.Nodup) (hl:θ.length=H0.length)
  (hlive:∀ (i:Nat) b,H0[i]?=some b→∃ b0,b=some b0∧bnds 0 b0.cells=true∧(vHp C.G H)[θ.getD i 0]?=some (some b0))
  (ha:bnds θ.length args0=true) (he:vVs C.G args=rens θ args0) (h:ACalls C f args0 H0 fun v' H'=>v'=vV C.G v∧H'.take k=H0) (hv:bnd 0 (vV C.G v)=true) (hu:vV C.G v≠.undef):DOut C f args H v []:=by
 have hb:hpB H0.length H0=true:=by
  have key:∀ (n:Nat) (A:Hp),(∀ (i:Nat) x,A[i]?=some (some x)→bnds n x.cells=true)→hpB n A=true:=by
   intro n A
   induction A with
   | nil=>intro _;rfl
   | cons a A ih=>
    intro g
    have:=ih fun i x hx=>g (i+1) x (by simpa using hx)
    cases a with
    | none=>simpa [hpB] using this
    | some x=>simp only [hpB,Bool.and_eq_true];exact ⟨g 0 x rfl,this⟩
  refine key _ _ fun i x hx=>?_
  obtain ⟨b0,e,g,_⟩:=hlive i _ hx
  simp only [Option.some.injEq] at e
  subst e
  exact bnds_mono (Nat.zero_le _) _ g
 have h:=h.keep (Nat.le_refl _) hb (bnd_mono (Nat.zero_le _) _ hv) hu
 have lv:∀ (θ':List Nat) (i:Nat) b,H0[i]?=some b→∃ b0,b=some b0∧bnds θ.length b0.cells=true∧(vHp C.G H)[θ.getD i 0]?=some (some (renB θ' b0)):=fun θ' i b hi=>by
  obtain ⟨b0,e,g1,g2⟩:=hlive i b hi
  refine ⟨b0,e,bnds_mono (Nat.zero_le _) _ g1,?_⟩
  have:renB θ' b0=b0:=by unfold renB;rw [rens_flat _ _ g1]
  rw [this];exact g2
 refine DOut.fr hnd hl (lv θ) ha he h (Nat.le_refl _) (bnd_mono (Nat.zero_le _) _ hv) hb (ren_flat _ _ hv).symm ?_
 unfold merge
 rw [hl,Nat.sub_self,List.drop_of_length_le (Nat.le_refl _)]
 show vHp C.G H=lay _ _ _ _++[]
 rw [List.append_nil,lay_same]
 ·intro i b _ hi
  obtain ⟨b0,rfl,_,g⟩:=lv (wide θ (vHp C.G H).length 0) i b hi
  exact g
def fmArg (s:Side) (H:DHp):EV→Option (EL×List EB)
 | .ptr (.fm b c i) o=>match famAt H b c with
  | some (z,l,ls)=>match Nat.beq z 1,s.get (.row l i) with
   | true,some (bc,d)=>some (d,[.eqN o (.lit 0),mkLe (mkAdd i (.lit 1)) (.lit c),.rows l ls,mkLe (mkAdd i (.lit 1)) (.len l),bc])
   | _,_=>none
  | none=>none
 | _=>none
def chks:List EB→Outs→Outs
 | [],o=>o
 | b::bs,o=>.chk b (chks bs o)
theorem chks_of {G:Nat→List AV} {Q:EV→List DHop→Prop} {o:Outs}:∀ {bs:List EB},((∀ b∈bs,vB G b=true)→oAll G Q o)→oAll G Q (chks bs o)
 | [],h=>h fun _ hb=>by cases hb
 | b::bs,h=>fun hb=>chks_of (bs:=bs) fun hbs=>h fun b' hb'=>by
  rcases List.mem_cons.1 hb' with rfl | hb'
  ·exact hb
  ·exact hbs b' hb'
theorem fmArg_ok {G:Nat→List AV} {s:Side} {enc:Sg→List AV} (hs:SideOk G s enc) {H:DHp} {a:EV} {d:EL} {bs:List EB} (h:fmArg s H a=some (d,bs)) (hb:∀ b∈bs,vB G b=true) :
  ∃ j p,vV G a=.ptr (.rw j) 0∧(vHp G H)[j]?=some (some ⟨1,enc p⟩)∧vL G d=encP p:=by
 unfold fmArg at h
 split at h
 ·rename_i b c i o
  split at h
  ·rename_i z l ls hf
   split at h
   ·rename_i bc d' hz hg
    have hz:=Nat.eq_of_beq_eq_true hz
    subst hz
    simp only [Option.some.injEq,Prod.mk.injEq] at h
    obtain ⟨rfl,rfl⟩:=h
    have h1:vN G o=0:=Nat.eq_of_beq_eq_true (hb (.eqN o (.lit 0)) (by simp))
    have h2:=le_mkLe (hb (mkLe (mkAdd i (.lit 1)) (.lit c)) (by simp))
    have h3:rowsA (vL G l) (vVs G ls)=true:=hb (.rows l ls) (by simp)
    have h4:=le_mkLe (hb (mkLe (mkAdd i (.lit 1)) (.len l)) (by simp))
    have h5:=hb bc (by simp)
    rw [vN_mkAdd] at h2 h4
    have h2:vN G i+1≤c:=h2
    obtain ⟨p,e1,e2⟩:=hs.get _ _ _ hg h5
    have e2:rowA (vL G l) (vN G i)=enc p:=e2
    have hat:=fam_at hf h3 (i:=vN G i) (by omega)
    rw [e2] at hat
    exact ⟨b+vN G i,p,by simp only [vV,vR,h1],hat,e1⟩
   ·cases h
  ·cases h
 ·cases h
def sameF (s:Side):DSum:=fun xs H=>match xs with
 | [a,b]=>match a,b with
  | .nilp,.nilp=>some (.one (.bool (.lit true)) [])
  | .nilp,b=>match fmArg s H b with
   | some (_,bs)=>some (chks bs (.one (.bool (.lit false)) []))
   | none=>none
  | a,.nilp=>match fmArg s H a with
   | some (_,bs)=>some (chks bs (.one (.bool (.lit false)) []))
   | none=>none
  | a,b=>match fmArg s H a,fmArg s H b with
   | some (d,bs),some (d',bs')=>some (chks bs (chks bs' (.one (.bool (.uf 1060 sameU [.agg d,.agg d'])) [])))
   | _,_=>none
 | _=>none
theorem sameB_refl' (p:Sg):sameB p p=true:=by simp [sameB]
theorem sameF_ok {C:Ctx} {s:Side} {enc:Sg→List AV} (hs:SideOk C.G s enc) (hinj:∀ p q,enc p=enc q→p=q) {f:FuncId} (h2:∀ p q,ACalls C f [.ptr (.rw 0) 0,.ptr (.rw 1) 0] [some ⟨1,enc p⟩,some ⟨1,enc q⟩] fun v H'=>v=.bool (sameB p q)∧H'.take 2=[some ⟨1,enc p⟩,some ⟨1,enc q⟩])
  (h1:∀ p,ACalls C f [.ptr (.rw 0) 0,.ptr (.rw 0) 0] [some ⟨1,enc p⟩] fun v H'=>v=.bool true∧H'.take 1=[some ⟨1,enc p⟩])
  (h0:ACalls C f [.nilp,.nilp] [] fun v H'=>v=.bool true∧H'.take 0=[])
  (hl:∀ p,ACalls C f [.nilp,.ptr (.rw 0) 0] [some ⟨1,enc p⟩] fun v H'=>v=.bool false∧H'.take 1=[some ⟨1,enc p⟩])
  (hr:∀ p,ACalls C f [.ptr (.rw 0) 0,.nilp] [some ⟨1,enc p⟩] fun v H'=>v=.bool false∧H'.take 1=[some ⟨1,enc p⟩]):DSumOk C f (sameF s):=by
 have one:∀ {H:DHp} {j:Nat} {p:Sg},(vHp C.G H)[j]?=some (some ⟨1,enc p⟩)→∀ (i:Nat) b,([some ⟨1,enc p⟩]:Hp)[i]?=some b→∃ b0,b=some b0∧bnds 0 b0.cells=true∧(vHp C.G H)[([j]:List Nat).getD i 0]?=some (some b0):=fun {H j p} hj i b hi=>by
  match i with
  | 0=>simp at hi;subst hi;exact ⟨_,rfl,hs.flat _ _,hj⟩
  | i+1=>simp at hi
 intro xs H o ho
 unfold sameF at ho
 split at ho
 ·rename_i a b
  split at ho
  ·simp only [Option.some.injEq] at ho;subst ho
   exact DOut.rdA (θ:=[]) (k:=0) (by simp) rfl (fun i b hi=>by simp at hi) rfl rfl h0 rfl (by simp [vV])
  ·split at ho
   ·rename_i d bs hf
    simp only [Option.some.injEq] at ho;subst ho
    refine chks_of fun hb=>?_
    obtain ⟨j,p,e1,e2,e3⟩:=fmArg_ok hs hf hb
    exact DOut.rdA (θ:=[j]) (k:=1) (by simp) rfl (one e2) rfl (by simp only [vVs,e1];rfl) (hl p) rfl (by simp [vV])
   ·cases ho
  ·split at ho
   ·rename_i d bs hf
    simp only [Option.some.injEq] at ho;subst ho
    refine chks_of fun hb=>?_
    obtain ⟨j,p,e1,e2,e3⟩:=fmArg_ok hs hf hb
    exact DOut.rdA (θ:=[j]) (k:=1) (by simp) rfl (one e2) rfl (by simp only [vVs,e1];rfl) (hr p) rfl (by simp [vV])
   ·cases ho
  ·split at ho
   ·rename_i d bs d' bs' hf hf'
    simp only [Option.some.injEq] at ho;subst ho
    refine chks_of fun hb=>chks_of fun hb'=>?_
    obtain ⟨j,p,e1,e2,e3⟩:=fmArg_ok hs hf hb
    obtain ⟨j',q,e1',e2',e3'⟩:=fmArg_ok hs hf' hb'
    have ev:vV C.G (.bool (.uf 1060 sameU [.agg d,.agg d']))=.bool (sameB p q):=by simp only [vV,vB,vVs,e3,e3',sameU_enc]
    by_cases hj:j=j'
    ·subst hj
     have:p=q:=hinj _ _ (by rw [e2] at e2';simpa using e2')
     subst this
     refine DOut.rdA (θ:=[j]) (k:=1) (by simp) rfl (one e2) (args0:=[.ptr (.rw 0) 0,.ptr (.rw 0) 0]) rfl (by simp only [vVs,e1,e1'];rfl) ?_ (by rw [ev];rfl) (by rw [ev];simp)
     rw [ev,sameB_refl'];exact h1 p
    ·refine DOut.rdA (θ:=[j,j']) (H0:=[some ⟨1,enc p⟩,some ⟨1,enc q⟩]) (k:=2) (by simp [hj]) rfl (fun i b hi=>?_) (args0:=[.ptr (.rw 0) 0,.ptr (.rw 1) 0]) rfl (by simp only [vVs,e1,e1'];rfl) ?_ (by rw [ev];rfl) (by rw [ev];simp)
     ·match i with
      | 0=>simp at hi;subst hi;exact ⟨_,rfl,hs.flat _ _,e2⟩
      | 1=>simp at hi;subst hi;exact ⟨_,rfl,hs.flat _ _,e2'⟩
      | i+2=>simp at hi
     ·rw [ev];exact h2 p q
   ·cases ho
 ·cases ho
theorem sameFP_ok (G:Nat→List AV) (B:Nat):DSumOk (⟨Try.prog,G,B⟩:Ctx) 24 (sameF sideP):=sameF_ok (sideP_ok G) (fun p q h=>encP_inj h) (p_same G B) (p_same1 G B) (n_same0 G B) (n_same1 G B) (n_same2 G B)
end Go.Am
