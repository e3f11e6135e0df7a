import Derived.ChangeKeysEq
import Derived.WideShapes
import Derived.Laws.MakeOwn
import Derived.Test.YtafbhakmkbehiaaGreatDoorZ7
import Derived.Test.YtafbhakmkbehiaaGreatDoorZ13
import Derived.Test.YtafbhakmkbehiaaGreatDoorZ14
open Go.Proofs.Tryz
set_option maxHeartbeats 4000000
set_option maxRecDepth 100000
namespace Go.Proofs.YtafbhakmkbehiaaGreatDoor
section
open Go.RowKit Go.Toll
open TollMont
theorem sR{k:Nat}(h:k<W):N k= .agg #[.int .u64 (k:Nat),.int .u64 0,.int .u64 0,.int .u64 0]:=by
 have h0:lim k 0=k:=by rw[IE,Nat.mod_eq_of_lt h]
 have h1:lim k 1=0:=by rw[Gq,Nat.div_eq_of_lt h];rfl
 have h2:lim k 2=0:=by rw[Gq,Nat.div_eq_of_lt h];rfl
 have h3:lim k 3=0:=by rw[Gq,Nat.div_eq_of_lt h];rfl
 unfold N;rw[h0,h1,h2,h3];rfl
def Dj(c0 c1 c2 c3 c4 c5 c6 c7:Nat):Nat:=256*(256*(256*(256*(256*(256*(256*(256*0+c0)+c1)+c2)+c3)+c4)+c5)+c6)+c7
def cvF(x:Nat):Nat:=x %18446744073709551616
def Co(x:Nat)(s:Int):Nat:=x*2^s.toNat %18446744073709551616
def AS(x:Nat)(s:Int):Nat:=x/2^s.toNat
def lwF(x:Nat):Nat:=x %256
theorem H7(s t a c:Nat)(ht:t=s+8)(hs:s<57)(ha:2^t*a<18446744073709551616)(hc:c<256):BS (2^t*a) (Co (cvF c) (s:Nat))=2^s*(256*a+c):=by
 have hp:2^t=256*2^s:=by rw[ht,Nat.pow_add,Nat.mul_comm]
 have hb:c*2^s<2^t:=by
  rw[hp];exact Nat.mul_lt_mul_of_pos_right hc (Nat.two_pow_pos s)
 have ht2:2^t≤18446744073709551616:=by
  rw[show 18446744073709551616=2^64 by decide];exact Nat.pow_le_pow_right (by decide) (by omega)
 have e1:cvF c=c:=Nat.mod_eq_of_lt (by omega);have e2:Co c (s:Nat)=c*2^s:=by unfold Co;rw[Int.toNat_natCast];exact Nat.mod_eq_of_lt (by omega)
 rw[e1,e2];unfold BS;rw[Nat.mod_eq_of_lt ha,Nat.mod_eq_of_lt (show c*2^s<18446744073709551616 by omega),←Nat.two_pow_add_eq_or_of_lt hb a,hp];rw[Nat.mul_add,Nat.mul_comm c,←Nat.mul_assoc,Nat.mul_comm (2^s) 256]
theorem PK(c0 c1 c2 c3 c4 c5 c6 c7:Nat)(h0:c0<256)(h1:c1<256)(h2:c2<256)(h3:c3<256)(h4:c4<256)(h5:c5<256)(h6:c6<256)(h7:c7<256):(BS (BS (BS (BS (BS (BS (BS (BS 0 (Co (cvF c0) 56)) (Co (cvF c1) 48)) (Co (cvF c2) 40)) (Co (cvF c3) 32)) (Co (cvF c4) 24)) (Co (cvF c5) 16)) (Co (cvF c6) 8)) (Co (cvF c7) 0))=Dj c0 c1 c2 c3 c4 c5 c6 c7:=by
 have s0:BS (2^64*0) (Co (cvF c0) 56)=2^56*(256*0+c0):=H7 56 64 0 c0 rfl (by decide) (by omega) h0;have s1:BS (2^56*(256*0+c0)) (Co (cvF c1) 48)=2^48*(256*(256*0+c0)+c1):=H7 48 56 (256*0+c0) c1 rfl (by decide) (by omega) h1;have s2:BS (2^48*(256*(256*0+c0)+c1)) (Co (cvF c2) 40)=2^40*(256*(256*(256*0+c0)+c1)+c2):=H7 40 48 (256*(256*0+c0)+c1) c2 rfl (by decide) (by omega) h2;have s3:BS (2^40*(256*(256*(256*0+c0)+c1)+c2)) (Co (cvF c3) 32)=2^32*(256*(256*(256*(256*0+c0)+c1)+c2)+c3):=H7 32 40 (256*(256*(256*0+c0)+c1)+c2) c3 rfl (by decide) (by omega) h3;have s4:BS (2^32*(256*(256*(256*(256*0+c0)+c1)+c2)+c3)) (Co (cvF c4) 24)=2^24*(256*(256*(256*(256*(256*0+c0)+c1)+c2)+c3)+c4):=H7 24 32 (256*(256*(256*(256*0+c0)+c1)+c2)+c3) c4 rfl (by decide) (by omega) h4;have s5:BS (2^24*(256*(256*(256*(256*(256*0+c0)+c1)+c2)+c3)+c4)) (Co (cvF c5) 16)=2^16*(256*(256*(256*(256*(256*(256*0+c0)+c1)+c2)+c3)+c4)+c5):=H7 16 24 (256*(256*(256*(256*(256*0+c0)+c1)+c2)+c3)+c4) c5 rfl (by decide) (by omega) h5;have s6:BS (2^16*(256*(256*(256*(256*(256*(256*0+c0)+c1)+c2)+c3)+c4)+c5)) (Co (cvF c6) 8)=2^8*(256*(256*(256*(256*(256*(256*(256*0+c0)+c1)+c2)+c3)+c4)+c5)+c6):=H7 8 16 (256*(256*(256*(256*(256*(256*0+c0)+c1)+c2)+c3)+c4)+c5) c6 rfl (by decide) (by omega) h6;have s7:BS (2^8*(256*(256*(256*(256*(256*(256*(256*0+c0)+c1)+c2)+c3)+c4)+c5)+c6)) (Co (cvF c7) 0)=2^0*(256*(256*(256*(256*(256*(256*(256*(256*0+c0)+c1)+c2)+c3)+c4)+c5)+c6)+c7):=H7 0 8 (256*(256*(256*(256*(256*(256*(256*0+c0)+c1)+c2)+c3)+c4)+c5)+c6) c7 rfl (by decide) (by omega) h7;rw[show(BS 0 (Co (cvF c0) 56))=2^56*(256*0+c0) from s0,s1,s2,s3,s4,s5,s6,s7];unfold Dj;omega
theorem N0(c0 c1 c2 c3 c4 c5 c6 c7:Nat)(h0:c0<256)(h1:c1<256)(h2:c2<256)(h3:c3<256)(h4:c4<256)(h5:c5<256)(h6:c6<256)(h7:c7<256):Dj c0 c1 c2 c3 c4 c5 c6 c7<W:=by unfold Dj;simp only[W];omega
theorem He(a:Nat)(h:a<W):Dj (lwF (AS a 56)) (lwF (AS a 48)) (lwF (AS a 40)) (lwF (AS a 32)) (lwF (AS a 24)) (lwF (AS a 16)) (lwF (AS a 8)) (lwF (AS a 0))=a:=by
 show Dj (a/72057594037927936 %256) (a/281474976710656 %256) (a/1099511627776 %256) (a/4294967296 %256) (a/16777216 %256) (a/65536 %256) (a/256 %256) (a/1 %256)=a;simp only[W]at h;unfold Dj;omega
theorem An(x:Nat)(s:Int):lwF (AS x s)<256:=Nat.mod_lt _ (by decide)
def F1(b0 b1 b2 b3 b4 b5 b6 b7 b8 b9 b10 b11 b12 b13 b14 b15 b16 b17 b18 b19 b20 b21 b22 b23 b24 b25 b26 b27 b28 b29 b30 b31:Nat):Nat:=(Dj b24 b25 b26 b27 b28 b29 b30 b31)+W*((Dj b16 b17 b18 b19 b20 b21 b22 b23)+W*((Dj b8 b9 b10 b11 b12 b13 b14 b15)+W*((Dj b0 b1 b2 b3 b4 b5 b6 b7)+W*0)))
section
variable{b0 b1 b2 b3 b4 b5 b6 b7 b8 b9 b10 b11 b12 b13 b14 b15 b16 b17 b18 b19 b20 b21 b22 b23 b24 b25 b26 b27 b28 b29 b30 b31:Nat}(l0:b0<256)(l1:b1<256)(l2:b2<256)(l3:b3<256)(l4:b4<256)(l5:b5<256)(l6:b6<256)(l7:b7<256)(l8:b8<256)(l9:b9<256)(l10:b10<256)(l11:b11<256)(l12:b12<256)(l13:b13<256)(l14:b14<256)(l15:b15<256)(l16:b16<256)(l17:b17<256)(l18:b18<256)(l19:b19<256)(l20:b20<256)(l21:b21<256)(l22:b22<256)(l23:b23<256)(l24:b24<256)(l25:b25<256)(l26:b26<256)(l27:b27<256)(l28:b28<256)(l29:b29<256)(l30:b30<256)(l31:b31<256)
include l0 l1 l2 l3 l4 l5 l6 l7 l8 l9 l10 l11 l12 l13 l14 l15 l16 l17 l18 l19 l20 l21 l22 l23 l24 l25 l26 l27 l28 l29 l30 l31
theorem YD:lim (F1 b0 b1 b2 b3 b4 b5 b6 b7 b8 b9 b10 b11 b12 b13 b14 b15 b16 b17 b18 b19 b20 b21 b22 b23 b24 b25 b26 b27 b28 b29 b30 b31) 0=(Dj b24 b25 b26 b27 b28 b29 b30 b31)∧lim (F1 b0 b1 b2 b3 b4 b5 b6 b7 b8 b9 b10 b11 b12 b13 b14 b15 b16 b17 b18 b19 b20 b21 b22 b23 b24 b25 b26 b27 b28 b29 b30 b31) 1=(Dj b16 b17 b18 b19 b20 b21 b22 b23)∧lim (F1 b0 b1 b2 b3 b4 b5 b6 b7 b8 b9 b10 b11 b12 b13 b14 b15 b16 b17 b18 b19 b20 b21 b22 b23 b24 b25 b26 b27 b28 b29 b30 b31) 2=(Dj b8 b9 b10 b11 b12 b13 b14 b15)∧lim (F1 b0 b1 b2 b3 b4 b5 b6 b7 b8 b9 b10 b11 b12 b13 b14 b15 b16 b17 b18 b19 b20 b21 b22 b23 b24 b25 b26 b27 b28 b29 b30 b31) 3=(Dj b0 b1 b2 b3 b4 b5 b6 b7)∧(F1 b0 b1 b2 b3 b4 b5 b6 b7 b8 b9 b10 b11 b12 b13 b14 b15 b16 b17 b18 b19 b20 b21 b22 b23 b24 b25 b26 b27 b28 b29 b30 b31)<R:=by
 have g0:=N0 _ _ _ _ _ _ _ _ l0 l1 l2 l3 l4 l5 l6 l7;have g1:=N0 _ _ _ _ _ _ _ _ l8 l9 l10 l11 l12 l13 l14 l15;have g2:=N0 _ _ _ _ _ _ _ _ l16 l17 l18 l19 l20 l21 l22 l23;have g3:=N0 _ _ _ _ _ _ _ _ l24 l25 l26 l27 l28 l29 l30 l31;obtain⟨h0,h1,h2,h3,h4⟩:=KX _ _ _ _ 0 g3 g2 g1 g0;refine⟨h0,h1,h2,h3,?_⟩;have:=Nat.div_eq_zero_iff.1 h4;rcases this with c|c
 ·exact absurd c (by decide)
 ·exact c
theorem lD(w:World):Calls prog 82 #[.agg #[.int .u8 (b0:Nat),.int .u8 (b1:Nat),.int .u8 (b2:Nat),.int .u8 (b3:Nat),.int .u8 (b4:Nat),.int .u8 (b5:Nat),.int .u8 (b6:Nat),.int .u8 (b7:Nat),.int .u8 (b8:Nat),.int .u8 (b9:Nat),.int .u8 (b10:Nat),.int .u8 (b11:Nat),.int .u8 (b12:Nat),.int .u8 (b13:Nat),.int .u8 (b14:Nat),.int .u8 (b15:Nat),.int .u8 (b16:Nat),.int .u8 (b17:Nat),.int .u8 (b18:Nat),.int .u8 (b19:Nat),.int .u8 (b20:Nat),.int .u8 (b21:Nat),.int .u8 (b22:Nat),.int .u8 (b23:Nat),.int .u8 (b24:Nat),.int .u8 (b25:Nat),.int .u8 (b26:Nat),.int .u8 (b27:Nat),.int .u8 (b28:Nat),.int .u8 (b29:Nat),.int .u8 (b30:Nat),.int .u8 (b31:Nat)]] w fun e w'=>e= .returned (N (F1 b0 b1 b2 b3 b4 b5 b6 b7 b8 b9 b10 b11 b12 b13 b14 b15 b16 b17 b18 b19 b20 b21 b22 b23 b24 b25 b26 b27 b28 b29 b30 b31))∧Gw w w':=by
 obtain⟨h0,h1,h2,h3,_⟩:=YD l0 l1 l2 l3 l4 l5 l6 l7 l8 l9 l10 l11 l12 l13 l14 l15 l16 l17 l18 l19 l20 l21 l22 l23 l24 l25 l26 l27 l28 l29 l30 l31;have h:=lE BS cvF Co b0 b1 b2 b3 b4 b5 b6 b7 b8 b9 b10 b11 b12 b13 b14 b15 b16 b17 b18 b19 b20 b21 b22 b23 b24 b25 b26 b27 b28 b29 b30 b31 w (fun x w=>cM x w) (fun x y p q w=>QZ x y p q w) (fun y p q w=>QZ 0 y p q w) (fun x s a b p q w=>rT x s a b p q w);rw[PK _ _ _ _ _ _ _ _ l24 l25 l26 l27 l28 l29 l30 l31,PK _ _ _ _ _ _ _ _ l16 l17 l18 l19 l20 l21 l22 l23,PK _ _ _ _ _ _ _ _ l8 l9 l10 l11 l12 l13 l14 l15,PK _ _ _ _ _ _ _ _ l0 l1 l2 l3 l4 l5 l6 l7]at h;unfold N;rw[h0,h1,h2,h3];exact h
end
theorem QQ(n:Nat)(w:World):Calls prog 86 #[N n] w fun e w'=>e= .returned (.agg #[.int .u8 ((lwF (AS (lim n 3) 56)):Nat),.int .u8 ((lwF (AS (lim n 3) 48)):Nat),.int .u8 ((lwF (AS (lim n 3) 40)):Nat),.int .u8 ((lwF (AS (lim n 3) 32)):Nat),.int .u8 ((lwF (AS (lim n 3) 24)):Nat),.int .u8 ((lwF (AS (lim n 3) 16)):Nat),.int .u8 ((lwF (AS (lim n 3) 8)):Nat),.int .u8 ((lwF (AS (lim n 3) 0)):Nat),.int .u8 ((lwF (AS (lim n 2) 56)):Nat),.int .u8 ((lwF (AS (lim n 2) 48)):Nat),.int .u8 ((lwF (AS (lim n 2) 40)):Nat),.int .u8 ((lwF (AS (lim n 2) 32)):Nat),.int .u8 ((lwF (AS (lim n 2) 24)):Nat),.int .u8 ((lwF (AS (lim n 2) 16)):Nat),.int .u8 ((lwF (AS (lim n 2) 8)):Nat),.int .u8 ((lwF (AS (lim n 2) 0)):Nat),.int .u8 ((lwF (AS (lim n 1) 56)):Nat),.int .u8 ((lwF (AS (lim n 1) 48)):Nat),.int .u8 ((lwF (AS (lim n 1) 40)):Nat),.int .u8 ((lwF (AS (lim n 1) 32)):Nat),.int .u8 ((lwF (AS (lim n 1) 24)):Nat),.int .u8 ((lwF (AS (lim n 1) 16)):Nat),.int .u8 ((lwF (AS (lim n 1) 8)):Nat),.int .u8 ((lwF (AS (lim n 1) 0)):Nat),.int .u8 ((lwF (AS (lim n 0) 56)):Nat),.int .u8 ((lwF (AS (lim n 0) 48)):Nat),.int .u8 ((lwF (AS (lim n 0) 40)):Nat),.int .u8 ((lwF (AS (lim n 0) 32)):Nat),.int .u8 ((lwF (AS (lim n 0) 24)):Nat),.int .u8 ((lwF (AS (lim n 0) 16)):Nat),.int .u8 ((lwF (AS (lim n 0) 8)):Nat),.int .u8 ((lwF (AS (lim n 0) 0)):Nat)])∧Gw w w':=qL lwF AS (lim n 0) (lim n 1) (lim n 2) (lim n 3) w (fun x w=>rY x w) (fun x s a b p q w=>rR x s a b p q w)
theorem YB(n:Nat)(hn:n<R)(w:World):Calls prog 82 #[.agg #[.int .u8 ((lwF (AS (lim n 3) 56)):Nat),.int .u8 ((lwF (AS (lim n 3) 48)):Nat),.int .u8 ((lwF (AS (lim n 3) 40)):Nat),.int .u8 ((lwF (AS (lim n 3) 32)):Nat),.int .u8 ((lwF (AS (lim n 3) 24)):Nat),.int .u8 ((lwF (AS (lim n 3) 16)):Nat),.int .u8 ((lwF (AS (lim n 3) 8)):Nat),.int .u8 ((lwF (AS (lim n 3) 0)):Nat),.int .u8 ((lwF (AS (lim n 2) 56)):Nat),.int .u8 ((lwF (AS (lim n 2) 48)):Nat),.int .u8 ((lwF (AS (lim n 2) 40)):Nat),.int .u8 ((lwF (AS (lim n 2) 32)):Nat),.int .u8 ((lwF (AS (lim n 2) 24)):Nat),.int .u8 ((lwF (AS (lim n 2) 16)):Nat),.int .u8 ((lwF (AS (lim n 2) 8)):Nat),.int .u8 ((lwF (AS (lim n 2) 0)):Nat),.int .u8 ((lwF (AS (lim n 1) 56)):Nat),.int .u8 ((lwF (AS (lim n 1) 48)):Nat),.int .u8 ((lwF (AS (lim n 1) 40)):Nat),.int .u8 ((lwF (AS (lim n 1) 32)):Nat),.int .u8 ((lwF (AS (lim n 1) 24)):Nat),.int .u8 ((lwF (AS (lim n 1) 16)):Nat),.int .u8 ((lwF (AS (lim n 1) 8)):Nat),.int .u8 ((lwF (AS (lim n 1) 0)):Nat),.int .u8 ((lwF (AS (lim n 0) 56)):Nat),.int .u8 ((lwF (AS (lim n 0) 48)):Nat),.int .u8 ((lwF (AS (lim n 0) 40)):Nat),.int .u8 ((lwF (AS (lim n 0) 32)):Nat),.int .u8 ((lwF (AS (lim n 0) 24)):Nat),.int .u8 ((lwF (AS (lim n 0) 16)):Nat),.int .u8 ((lwF (AS (lim n 0) 8)):Nat),.int .u8 ((lwF (AS (lim n 0) 0)):Nat)]] w fun e w'=>e= .returned (N n)∧Gw w w':=by
 have h:=lD (An (lim n 3) 56) (An (lim n 3) 48) (An (lim n 3) 40) (An (lim n 3) 32) (An (lim n 3) 24) (An (lim n 3) 16) (An (lim n 3) 8) (An (lim n 3) 0) (An (lim n 2) 56) (An (lim n 2) 48) (An (lim n 2) 40) (An (lim n 2) 32) (An (lim n 2) 24) (An (lim n 2) 16) (An (lim n 2) 8) (An (lim n 2) 0) (An (lim n 1) 56) (An (lim n 1) 48) (An (lim n 1) 40) (An (lim n 1) 32) (An (lim n 1) 24) (An (lim n 1) 16) (An (lim n 1) 8) (An (lim n 1) 0) (An (lim n 0) 56) (An (lim n 0) 48) (An (lim n 0) 40) (An (lim n 0) 32) (An (lim n 0) 24) (An (lim n 0) 16) (An (lim n 0) 8) (An (lim n 0) 0) w
 have e:F1 (lwF (AS (lim n 3) 56)) (lwF (AS (lim n 3) 48)) (lwF (AS (lim n 3) 40)) (lwF (AS (lim n 3) 32)) (lwF (AS (lim n 3) 24)) (lwF (AS (lim n 3) 16)) (lwF (AS (lim n 3) 8)) (lwF (AS (lim n 3) 0)) (lwF (AS (lim n 2) 56)) (lwF (AS (lim n 2) 48)) (lwF (AS (lim n 2) 40)) (lwF (AS (lim n 2) 32)) (lwF (AS (lim n 2) 24)) (lwF (AS (lim n 2) 16)) (lwF (AS (lim n 2) 8)) (lwF (AS (lim n 2) 0)) (lwF (AS (lim n 1) 56)) (lwF (AS (lim n 1) 48)) (lwF (AS (lim n 1) 40)) (lwF (AS (lim n 1) 32)) (lwF (AS (lim n 1) 24)) (lwF (AS (lim n 1) 16)) (lwF (AS (lim n 1) 8)) (lwF (AS (lim n 1) 0)) (lwF (AS (lim n 0) 56)) (lwF (AS (lim n 0) 48)) (lwF (AS (lim n 0) 40)) (lwF (AS (lim n 0) 32)) (lwF (AS (lim n 0) 24)) (lwF (AS (lim n 0) 16)) (lwF (AS (lim n 0) 8)) (lwF (AS (lim n 0) 0))=n:=by
  unfold F1;rw[He _ (AZ n 0),He _ (AZ n 1),He _ (AZ n 2),He _ (AZ n 3),Nat.mul_zero,Nat.add_zero];exact(Ek hn).symm
 rw[e]at h;exact h
end
section
open Go.RowKit Go.Vx
variable{ops:Array Oper}{p:Bool}{ki:IntKind}{a b bs rd:List Nat}{o:Oper}{x:Operand}{P:Program}{dt e t:TypeId}{s:VS}{w0:World}
open TollSha
open Go.Toll (Gw)
def AB(bs:List Nat):ByteArray:=⟨(bs.map fun b=>UInt8.ofNat b).toArray⟩
theorem Ff(b:List Nat):(AB b).size=b.length:=by simp[AB,ByteArray.size]
theorem qm{i c:Nat}(h:b[i]? =some c):(AB b)[i]? =some (UInt8.ofNat c):=by
 obtain⟨hi,e⟩:=List.getElem?_eq_some_iff.1 h;have h1:i<(AB b).size:=by rw[Ff];exact hi
 rw[getElem?_pos (AB b) i h1];congr 1
 show(AB b).data[i]=_;simp[AB,e]
theorem QS{c:Nat}(h:c<256):(UInt8.ofNat c).toNat=c:=by simp;omega
theorem HX(ho:o.op= .call {callee:= .builtin .len,args:= #[x],argTypes:= #[t]})(hgd:AQ ops o s)(hx:AE s x= .v (.string (AB b)))(hu:prog.underlying t=some .string):Ev prog ops w0 o s ⟨.v (.int .i64 (b.length:Nat)),[],[],[],[]⟩:=by
 have:=oK (w0:=w0) ho hgd hx hu
 rwa [Ff]at this
theorem CF{ix:Operand}{k c:Nat}(ho:o.op= .index t x ix)(hgd:AQ ops o s)(hx:AE s x= .v (.string (AB b)))(hi:AE s ix= .v (.int ki (k:Nat)))(hu:prog.underlying t=some .string)(hc:b[k]? =some c)(h8:c<256):Ev prog ops w0 o s ⟨.v (.int .u8 (c:Int)),[],[],[],[]⟩:=by
 have:=oN (w0:=w0) ho hgd hx hi hu (qm hc)
 rwa [QS h8]at this
theorem ql(ha: ∀x∈a,x<256)(hb: ∀x∈b,x<256):AB a=AB b↔a=b:=by
 refine⟨fun h=> ?_,fun h=>by rw[h]⟩
 have h1:a.map (fun b=>UInt8.ofNat b)=b.map (fun b=>UInt8.ofNat b):=by
  have:=congrArg (fun s:ByteArray=>s.data.toList) h;simpa[AB] using this
 apply List.ext_getElem?;intro i;have h2:=congrArg (fun l=>(l[i]?).map UInt8.toNat) h1;simp only[List.getElem?_map]at h2;cases h3:a[i]? with
 |none=>rw[h3]at h2;cases h4:b[i]? with
  |none=>rfl
  |some y=>rw[h4]at h2;simp at h2
 |some x=>rw[h3]at h2;cases h4:b[i]? with
  |none=>rw[h4]at h2;simp at h2
  |some y=>
   rw[h4]at h2;simp only[Option.map_some,Option.some.injEq]at h2;rw[QS (ha x (List.mem_of_getElem? h3)),QS (hb y (List.mem_of_getElem? h4))]at h2;rw[h2]
theorem bp(ha: ∀x∈a,x<256)(hb: ∀x∈b,x<256):((AB a).toList==(AB b).toList)=decide (a=b):=by
 rw[←decide_eq_decide.2 (ql ha hb)];refine Bool.eq_iff_iff.2 ?_;rw[beq_iff_eq,decide_eq_true_eq];refine⟨fun h=> ?_,fun h=>by rw[h]⟩;rw[ByteArray.toList_eq,ByteArray.toList_eq]at h;exact Go.WideShapes.bytes_inj h
theorem E4(h:decide (a=b)=p)(ha: ∀x∈a,x<256)(hb: ∀x∈b,x<256)(x y:Operand)(w:World):(do eqGuard .eql 9 x y (.string (AB a)) (.string (AB b));binOp .eql 9 (.string (AB a)) (.string (AB b)):Sem Value).run prog w= .ok (.bool p) w:=by
 go_simp
 rw[bp ha hb,h]
theorem Hp(h:decide (a≠b)=p)(ha: ∀x∈a,x<256)(hb: ∀x∈b,x<256)(x y:Operand)(w:World):(do eqGuard .neq 9 x y (.string (AB a)) (.string (AB b));binOp .neq 9 (.string (AB a)) (.string (AB b)):Sem Value).run prog w= .ok (.bool p) w:=by
 have e:((AB a).toList==(AB b).toList)= !p:=by
  rw[bp ha hb,←h];simp
 go_simp
 try exact e
theorem ef(l:List Nat):Iu (l.map b8)=AB l:=by
 simp only[Iu,AB,List.map_map];congr 2
theorem ra(bs:List Nat):(bs.map b8).all P2=true:=by
 rw[List.all_map];exact List.all_eq_true.2 fun _ _=>rfl
theorem Cc{st:TypeId}{n:Nat}{y:SV}(ho:o.op= .convert st dt x)(hgd:AQ ops o s)(hx:AE s x=y)
 (hs:P.underlying st=some (.slice e))(he:P.underlying e=some (.int .u8))(hd:P.underlying dt=some .string)(hr:Rdg w0 s.mem rd y n 1 (bs.map b8)):Ev P ops w0 o s ⟨.v (.string (AB bs)),[],[],[],rd⟩:=by
 have:=oY (w0:=w0) ho hgd hx hs he hd hr (ra bs)
 rwa [ef]at this
theorem Vl(h: ∀x∈b,x<256):C1 (AB b)=b.map b8:=by
 simp only[Go.Lib.strCells,AB,List.map_map];apply List.map_congr_left;intro x hx;simp only[Function.comp,b8];rw[QS (h x hx)]
theorem Tw{st:TypeId}{id:Nat}(_hd:o.dst=some id)(ho:o.op= .convert st dt x)(hgd:AQ ops o s)(hx:AE s x= .v (.string (AB b)))
 (hs:prog.underlying st=some .string)(hd:prog.underlying dt=some (.slice e))(he:prog.underlying e=some (.int .u8))(hm:b.length≤maxLen)(h8: ∀x∈b,x<256):Ev prog ops w0 o s ⟨.d id,[(id,.row b.length 1 e (.exact (b.map b8)))],[],[id],[]⟩:=by
 have:=oW (w0:=w0) _hd ho hgd hx hs hd he (by rw[Ff];exact hm)
 rwa [Ff,Vl h8]at this
end
end Go.Proofs.YtafbhakmkbehiaaGreatDoor
namespace Go.Vx
open Go.RowKit Go.Toll
section
variable{P:Program}{w0:World}{ops:Array Oper}{o:Oper}{s:VS}
theorem aP{t e:TypeId}{x y:Operand}{id k:Nat}{z:Value}(_hd:o.dst=some id)(ho:o.op= .makeSlice t x y)(hgd:AQ ops o s)
 (hx:AE s x= .v (.int .i64 (k:Nat)))(hy:AE s y= .v (.int .i64 (k:Nat)))(ht:P.underlying t=some (.slice e))(hI:DT P e 1 1)(hz: ∀w,(zeroValue e).run P w= .ok z w)(hzc:z.cells= #[z])(hk:k≤140737488355328):
 Ev P ops w0 o s ⟨.d id,[(id,.row k 1 e (.exact (List.replicate k z)))],[],[id],[]⟩:=
 ⟨by simp[Eff.ok],.inr ⟨hgd,fun ρ S w hb hR=>by
  obtain⟨i,z',hi,hz',hsize,hby,hzs⟩:=hI.get;have e1:=AI s ρ x;rw[hx]at e1;have e2:=AI s ρ y;rw[hy]at e2;simp only[SV.c]at e1 e2
  have hzz:z=z':=by
   have:=hz w;simp[zeroValue,typeInfo,hi,hz']at this;exact this.symm
  subst hzz
  have hzl:madeCells #[z] k=(List.replicate k z).toArray:=by
   apply Array.ext
   ·simp[madeCells]
   ·intro j h1 h2;simp[madeCells,Nat.mod_one]
  have hr:=run_make (P:=P) w t e i z ht hi hz' .i64 .i64 (k:Int) (k:Int) (by omega) (by omega) (by rw[hby];omega) (by omega);rw[hsize,hzc,Int.toNat_natCast,Nat.mul_one,hzl]at hr;refine .inl ⟨.slice (some ⟨w.heap.size,0,none⟩) k k,w.alloc (.cells (List.replicate k z).toArray e),?_,fun j=>if j=id then⟨w.heap.size,.slice (some ⟨w.heap.size,0,none⟩) k k⟩else ρ j,fun _ _=>False,?_⟩
  ·simp only[execOp,ho,e1,e2]
   rw[Sem.run_bind,hr];rfl
  ·have:=H6 (t:=s.mem) (ρ:=ρ) (S:=S) (val:= .d id) (rd:=[]) (id:=id) (n:=k) (size:=1) (ty:=e) (l:=List.replicate k z) (w:=w) (w':=w.alloc (.cells (List.replicate k z).toArray e)) (v:= .slice (some ⟨w.heap.size,0,none⟩) k k) (g:=w.heap.size) hb.size
    ⟨rfl,rfl,rfl,by simp,fun k hk=>heap_alloc_old w _ hk⟩ (by simp) (.inr ⟨0,k,(List.replicate k z).toArray,(0,0),rfl,Nat.le_refl _,heap_alloc_new w _,.inl rfl,Nat.le_refl _,by simp only[maxLen];omega,by simp,by simp⟩)
   simpa[SV.c] using this⟩⟩
end
end Go.Vx
