import Derived.Lib.BufferMore
import Derived.Test.YtafbhakmkbehiaaGreatDoorY19
open Go.Proofs.Tryz
set_option maxHeartbeats 4000000
set_option maxRecDepth 100000
namespace Go.Proofs.YtafbhakmkbehiaaGreatDoor
open Go.RowKit Go.Vx
variable(w:World){b bs r:List Nat}{ks:List Tr}{n:Nat}{S:Nat→Prop}
open Go.Toll (Gw)
theorem gW{a b:Nat}(_hb:b<8)(p q:Operand)(w:World):(do eqGuard .rem 5 p q (.int .u8 (a:Nat)) (.int .u8 ((2^b:Nat):Int));binOp .rem 5 (.int .u8 (a:Nat)) (.int .u8 ((2^b:Nat):Int)):Sem Value).run prog w= .ok (.int .u8 ((md a b:Nat):Int)) w:=by
 have h0:=Nat.two_pow_pos b;have h1: ¬((2^b:Nat):Int)=0:=by omega
 have h2:((a:Int).tmod ((2^b:Nat):Int))=((md a b:Nat):Int):=by rw[Int.tmod_eq_emod_of_nonneg (Int.natCast_nonneg _)];rfl
 obtain⟨m,hm⟩: ∃m,2^b=m:=⟨_,rfl⟩
 rw[hm]at h0 h1 h2⊢
 go_simp
 omega
theorem Si: ∀(l:List Nat) (a c:Bool),Cq a l=some c→l≠[]→c=decide (Dq l<128)
 | [],_,_,_,h=>absurd rfl h
 | [b],a,c,h,_=>by
   cases hc:(a && decide (b=128))with
   |true=>rw[JC hc]at h;cases h
   |false=>rw[PI hc]at h;simp only[Cq,Option.some.injEq]at h;rw[←h];rfl
 |b::b'::r,a,c,h,_=>by
  cases hc:(a && decide (b=128))with
  |true=>rw[JC hc]at h;cases h
  |false=>rw[PI hc]at h;rw[Si (b'::r) _ c h (by simp)];simp[Dq,List.getD]
theorem Sg(h:b.length=0∨Dq b≥128):Da b=false:=by
 unfold Da;cases hg:Cq true b with
 |none=>rfl
 |some a=>
  simp only;rcases h with h|h
  ·simp[h]
  ·by_cases hb:b=[]
   ·subst hb;simp
   ·rw[Si b true a hg hb];simp;intro _;omega
theorem Sf{a:Bool}(h:Cq true b=some a)(hn:b.length≠0)(hl:Dq b<128):Da b=true:=by
 unfold Da;rw[h];simp only;rw[Si b true a h (by intro c;subst c;exact hn rfl)];simp;omega
def IW(b:List Nat)(i:Nat):Bool:=decide (i=0)||decide (b.getD (i-1) 0<128)
theorem rG{i c:Nat}(h:b[i]? =some c):IW b (i+1)=decide (c<128):=by
 simp[IW,List.getD,h]
theorem iP:Calls prog 101 #[.int .i64 3,.string (AB [])] w fun e w'=>e= .returned (.bool (false))∧Bw w w':=by
 go_enter func101,ntmps101
 refine F5 ?_
 refine Gt ?_
 refine C6 ?_
 refine C6 ?_
 refine FR ?_;iterate 7 refine k_k ?_
 refine FR ?_;refine BP ?_;iterate 2 refine k_3 ?_
 iterate 2 refine k_k ?_
 refine k_0 ?_;refine k_3 ?_;iterate 2 refine k_0 ?_
 refine HN ?_;iterate 7 refine k_k ?_
 exact AG (AD (AH results101 (AF rfl)) fun _ _ hr=>⟨rfl,hr.1⟩)
theorem iQ{b0:Nat}(h8: ∀z∈b0::r,z<256)(hm:(b0::r).length≤1048576)(w:World):Calls prog 101 #[.int .i64 3,.string (AB (b0::r))] w fun e w'=>e= .returned (.bool (Nq b0 r))∧Bw w w':=by
 unfold Nq;obtain⟨q1,h_q1⟩: ∃p,decide (b0≥8)=p:=⟨_,rfl⟩
 obtain⟨q2,h_q2⟩: ∃p,decide (r.length+1=1)=p:=⟨_,rfl⟩
 obtain⟨q3,h_q3⟩: ∃p,decide (b0=0)=p:=⟨_,rfl⟩
 rw[h_q1,h_q2,h_q3];have h_q1':decide ((b0:Int)>((7:Nat):Int))=q1:=by rw[←h_q1];exact decide_eq_decide.2 (by omega)
 have h_q2':=(CM (r.length+1) 1).trans h_q2;have h_q3':decide ((b0:Int)≠((0:Nat):Int))= !q3:=by rw[←h_q3,←decide_not];exact decide_eq_decide.2 (by omega)
 have hlast:(b0::r)[r.length]? =some (Dq (b0::r)):=by unfold Dq;exact Jc (by simp)
 have hl8:Dq (b0::r)<256:=h8 _ (List.mem_of_getElem? hlast);have hb8:q1=false→b0<8:=fun h=>by rw[h]at h_q1;have:=of_decide_eq_false h_q1;omega
 go_enter func101,ntmps101
 refine A4 ?_;cases q1<;>cases q2<;>cases q3<;>
 (
  iterate 7 refine k_k ?_
  refine Gt ?_
  refine C6 ?_
  refine C6 ?_
  refine FR ?_;iterate 7 refine k_k ?_
  refine k_s (by exact Ag (p:=false) rfl gg rfl rfl (decide_eq_false (by simp only[List.length_cons];omega))) ?_;refine BP ?_;refine TV ?_;refine k_s (by first|exact Ev.skip (fun _=>rfl)|exact BV rfl (fun _=>rfl) rfl rfl h_q1') ?_;iterate 2 refine k_k ?_
  refine k_0 ?_;refine Po ?_;iterate 2 refine k_0 ?_
  refine TV ?_;refine k_s (by first|exact Ev.skip (fun _=>rfl)|exact BB rfl (fun _=>rfl) rfl rfl h_q3') ?_;refine Eo ?_;iterate 2 refine k_k ?_
  first
  |(
   iterate 5 refine k_k ?_
   exact AG (AD (AH results101 (AF rfl)) fun _ _ hr=>⟨rfl,hr.1⟩)
   )
  |(
   iterate 5 refine k_k ?_
   refine k_s (by exact Ag rfl gg rfl rfl h_q2') ?_;refine F6 ?_
   refine k_s (by first|exact Ev.skip (fun _=>rfl)|exact Bu (c:=((r.length:Nat):Int)) rfl (fun _=>rfl) rfl rfl (by simp only[List.length_cons]at hm ⊢; rw[Ah (by omega) (by omega)];omega)) ?_;refine k_s (by first|exact Ev.skip (fun _=>rfl)|exact CF (k:=r.length) rfl (fun _=>rfl) rfl rfl underlying9 (hlast) (hl8)) ?_;refine k_0 ?_;refine TV ?_;refine k_s (by first|exact Ev.skip (fun _=>rfl)|exact AK rfl (fun _=>rfl) rfl rfl (fun w=>Vs (hb8 rfl) _ _ w)) ?_;refine k_s (by first|exact Ev.skip (fun _=>rfl)|exact AK rfl (fun _=>rfl) rfl rfl (fun w=>gW (hb8 rfl) _ _ w)) ?_;refine k_s (by first|exact Ev.skip (fun _=>rfl)|exact Ag rfl (fun _=>rfl) rfl rfl (CM _ 0)) ?_;iterate 3 refine k_k ?_
   exact AG (AD (AH results101 (AF rfl)) fun _ _ hr=>⟨rfl,hr.1⟩)
   )
 )
theorem iV(h8: ∀x∈b,x<256)(hm:b.length≤1048576)(w:World):Calls prog 101 #[.int .i64 12,.string (AB b)] w fun e w'=>e= .returned (.bool (JB b))∧Bw w w':=by
 go_enter func101,ntmps101
 refine F5 ?_
 refine Gt ?_
 refine C6 ?_
 refine C6 ?_
 refine C6 ?_
 refine C6 ?_
 refine C6 ?_
 refine FR ?_;iterate 9 refine k_k ?_
 refine Bo (α:={i:Nat // i≤b.length∧b.any B9=(b.drop i).any B9}) (fun(x:{i:Nat // i≤b.length∧b.any B9=(b.drop i).any B9}) f=>⟨[.v (.int .i64 12),.v (.string (AB b)),.v (f 2),.v (f 3),.v (.bool false),.v (.int .i64 (b.length:Nat)),.v (f 6),.v (.int .i64 (x.1:Nat)),.v (f 8),.v (f 9),.v (f 10),.v (f 11),.v (f 12),.v (f 13),.v (f 14),.v (f 15),.v (f 16),.v (f 17),.v (f 18),.v (f 19),.v (f 20),.v (f 21),.v (f 22),.v (f 23),.v (f 24),.v (f 25),.v (f 26),.v (f 27),.v (f 28),.v (f 29),.v (f 30),.v (f 31),.v (f 32),.v (f 33),.v (f 34),.v (f 35),.v (f 36),.v (f 37),.v (f 38),.v (f 39),.v (f 40),.v (f 41),.v (f 42),.v (f 43),.v (f 44),.v (f 45),.v (f 46),.v (f 47),.v (f 48),.v (f 49),.v (f 50),.v (f 51),.v (f 52),.v (f 53),.v (f 54),.v (f 55),.v (f 56),.v (f 57),.v (f 58),.v (f 59),.v (f 60),.v (f 61),.v (f 62),.v (f 63),.v (f 64),.v (f 65),.v (f 66),.v (f 67),.v (f 68),.v (f 69),.v (f 70),.v (f 71),.v (f 72),.v (f 73),.v (f 74),.v (f 75),.v (f 76),.v (f 77),.v (f 78),.v (f 79),.v (f 80),.v (f 81),.v (f 82),.v (f 83),.v (f 84),.v (f 85),.v (f 86),.v (f 87),.v (f 88),.v (f 89),.v (f 90),.v (f 91),.v (f 92),.v (f 93),.v (f 94),.v (f 95),.v (f 96),.v (f 97),.v (f 98),.v (f 99),.v (f 100),.v (f 101),.v (f 102),.v (f 103),.v (f 104),.v (f 105),.v (f 106),.v (f 107),.v (f 108),.v (f 109),.v (f 110),.v (f 111),.v (f 112),.v (f 113),.v (f 114),.v (f 115),.v (f 116),.v (f 117),.v (f 118),.v (f 119),.v (f 120),.v (f 121),.v (f 122),.v (f 123),.v (f 124),.v (f 125),.v (f 126),.v (f 127),.v (f 128),.v (f 129),.v (f 130),.v (f 131),.v (f 132),.v (f 133)],AJ []⟩) (fun x=>b.length-x.1) ?_ (⟨0,Nat.zero_le _,rfl⟩) ?_
 ·rintro⟨i,hi,hidx⟩ f
  obtain⟨q,h_q⟩: ∃q,decide ((i:Int)<(b.length:Int))=q:=⟨_,rfl⟩
  refine IG ?_
  refine M9 ?_;refine k_k ?_;cases q
  ·refine k_k ?_
   have hge:b.length≤i:=by have:=of_decide_eq_false h_q;omega
   rw[List.drop_eq_nil_of_le hge]at hidx;refine As ?_;refine CN ?_
   refine AG ?_;refine AD (AH results101 (AF rfl)) ?_;intro ρ w' hr
   (first|(refine⟨?_,hr.1⟩;unfold JB;rw[hidx,Bj hk,List.any_cons];unfold B9;rw[h_q2,h_q3];rfl)|(refine⟨?_,hr.1⟩;unfold JB;rw[hidx];rfl))
  ·refine k_k ?_
   have hlt:i<b.length:=by have:=of_decide_eq_true h_q;omega
   obtain⟨c,hk⟩:=EV hlt;have hc8:=h8 c (List.mem_of_getElem? hk);obtain⟨q2,h_q2⟩: ∃q2,decide (c<32)=q2:=⟨_,rfl⟩
   obtain⟨q3,h_q3⟩: ∃q3,decide (c>126)=q3:=⟨_,rfl⟩
   have h_q2':=(CL c 32).trans h_q2;have h_q3':=(Cr c 126).trans h_q3;cases q2<;>cases q3<;>
   (
    iterate 7 refine k_k ?_
    refine k_s (by exact CF (k:=i) rfl gg rfl rfl underlying9 (hk) (hc8)) ?_;refine k_s (by exact D8 rfl gg rfl rfl h_q2') ?_;refine F6 ?_
    refine k_s (by first|exact Ev.skip (fun _=>rfl)|exact CF (k:=i) rfl (fun _=>rfl) rfl rfl underlying9 (hk) (hc8)) ?_;refine k_s (by first|exact Ev.skip (fun _=>rfl)|exact BV rfl (fun _=>rfl) rfl rfl h_q3') ?_;iterate 2 refine k_k ?_
    first
    |(
     refine Ke ?_;refine AD (AH results101 (AF rfl)) ?_;intro ρ w' hr
     (first|(refine⟨?_,hr.1⟩;unfold JB;rw[hidx,Bj hk,List.any_cons];unfold B9;rw[h_q2,h_q3];rfl)|(refine⟨?_,hr.1⟩;unfold JB;rw[hidx];rfl))
     )
    |(
     iterate 4 refine k_k ?_
     refine ER ?_;iterate 2 refine k_k ?_
     refine⟨⟨i+1,by omega,by rw[hidx,Bj hk,List.any_cons];unfold B9;rw[h_q2,h_q3];rfl⟩,by show b.length-(i+1)<b.length-i;omega,?_⟩;exact Ar (fun i=>i==0||i==1||i==4||i==5||i==7) []
     )
   )
 ·exact Ar (fun i=>i==0||i==1||i==4||i==5||i==7) []
theorem iM(h8: ∀x∈b,x<256)(hm:b.length≤1048576)(w:World):Calls prog 101 #[.int .i64 6,.string (AB b)] w fun e w'=>e= .returned (.bool (Da b))∧Bw w w':=by
 obtain⟨p1,h_p1⟩: ∃p,decide (b.length=0)=p:=⟨_,rfl⟩
 obtain⟨p2,h_p2⟩: ∃p,decide (Dq b≥128)=p:=⟨_,rfl⟩
 have h_p1':=(CM b.length 0).trans h_p1;have h_p2':=(Ej (Dq b) 128).trans h_p2
 go_enter func101,ntmps101
 refine A4 ?_;cases p1<;>cases p2<;>
 (
  iterate 7 refine k_k ?_
  refine Gt ?_
  refine C6 ?_
  refine C6 ?_
  refine C6 ?_
  refine C6 ?_
  refine FR ?_;iterate 7 refine k_k ?_
  refine k_s (by exact Ag rfl gg rfl rfl h_p1') ?_;refine F6 ?_
  refine k_s (by first|exact Ev.skip (fun _=>rfl)|exact Bu (c:=((b.length-1:Nat):Int)) rfl (fun _=>rfl) rfl rfl (by have:=of_decide_eq_false h_p1;rw[Ah (by omega) (by omega)];omega)) ?_;refine k_s (by first|exact Ev.skip (fun _=>rfl)|exact CF (k:=b.length-1) rfl (fun _=>rfl) rfl rfl underlying9 (Jc (by have:=of_decide_eq_false h_p1;omega)) (h8 _ (List.mem_of_getElem? (Jc (by have:=of_decide_eq_false h_p1;omega))))) ?_;refine k_s (by first|exact Ev.skip (fun _=>rfl)|exact Ew rfl (fun _=>rfl) rfl rfl h_p2') ?_;iterate 2 refine k_k ?_
  first
  |(
   refine Ke ?_;refine AD (AH results101 (AF rfl)) ?_;intro ρ w' hr
   (first|(refine⟨?_,hr.1⟩;rw[Sg (by first|exact .inl (of_decide_eq_true h_p1)|exact .inr (of_decide_eq_true h_p2))];rfl)|(refine⟨?_,hr.1⟩;rw[show Da b=false by unfold Da;rw[hgo,Bj hk,JC (by unfold IW;rw[h_q2,h_q3,h_q4];rfl)]];rfl)|(refine⟨?_,hr.1⟩;rw[Sf (hgo.trans rfl) (of_decide_eq_false h_p1) (by have:=of_decide_eq_false h_p2;unfold Dq at *; omega)];rfl))
   )
  |(
   iterate 8 refine k_k ?_
   refine Bo (α:={i:Nat // i≤b.length∧Cq true b=Cq (IW b i) (b.drop i)}) (fun(x:{i:Nat // i≤b.length∧Cq true b=Cq (IW b i) (b.drop i)}) f=>⟨[.v (.int .i64 6),.v (.string (AB b)),.v (f 2),.v (f 3),.v (.bool false),.v (.int .i64 (b.length:Nat)),.v (.int .i64 (x.1:Nat)),.v (f 7),.v (f 8),.v (f 9),.v (f 10),.v (f 11),.v (f 12),.v (f 13),.v (f 14),.v (f 15),.v (f 16),.v (f 17),.v (f 18),.v (f 19),.v (f 20),.v (f 21),.v (f 22),.v (f 23),.v (f 24),.v (f 25),.v (f 26),.v (f 27),.v (f 28),.v (f 29),.v (f 30),.v (f 31),.v (f 32),.v (f 33),.v (f 34),.v (f 35),.v (f 36),.v (f 37),.v (f 38),.v (f 39),.v (f 40),.v (f 41),.v (f 42),.v (f 43),.v (f 44),.v (f 45),.v (f 46),.v (f 47),.v (f 48),.v (f 49),.v (f 50),.v (f 51),.v (f 52),.v (f 53),.v (f 54),.v (f 55),.v (f 56),.v (f 57),.v (f 58),.v (f 59),.v (f 60),.v (f 61),.v (f 62),.v (f 63),.v (f 64),.v (f 65),.v (f 66),.v (f 67),.v (f 68),.v (f 69),.v (f 70),.v (f 71),.v (f 72),.v (f 73),.v (f 74),.v (f 75),.v (f 76),.v (f 77),.v (f 78),.v (f 79),.v (f 80),.v (f 81),.v (f 82),.v (f 83),.v (f 84),.v (f 85),.v (f 86),.v (f 87),.v (f 88),.v (f 89),.v (f 90),.v (f 91),.v (f 92),.v (f 93),.v (f 94),.v (f 95),.v (f 96),.v (f 97),.v (f 98),.v (f 99),.v (f 100),.v (f 101),.v (f 102),.v (f 103),.v (f 104),.v (f 105),.v (f 106),.v (f 107),.v (f 108),.v (f 109),.v (f 110),.v (f 111),.v (f 112),.v (f 113),.v (f 114),.v (f 115),.v (f 116),.v (f 117),.v (f 118),.v (f 119),.v (f 120),.v (f 121),.v (f 122),.v (f 123),.v (f 124),.v (f 125),.v (f 126),.v (f 127),.v (f 128),.v (f 129),.v (f 130),.v (f 131),.v (f 132),.v (f 133)],AJ []⟩) (fun x=>b.length-x.1) ?_ (⟨0,Nat.zero_le _,rfl⟩) ?_
   ·rintro⟨i,hi,hgo⟩ f
    obtain⟨q,h_q⟩: ∃q,decide ((i:Int)<(b.length:Int))=q:=⟨_,rfl⟩
    refine IG ?_
    refine M9 ?_;refine k_k ?_;cases q
    ·refine k_k ?_
     have hge:b.length≤i:=by have:=of_decide_eq_false h_q;omega
     rw[List.drop_eq_nil_of_le hge]at hgo;refine As ?_;refine CN ?_
     refine AG ?_;refine AD (AH results101 (AF rfl)) ?_;intro ρ w' hr
     (first|(refine⟨?_,hr.1⟩;rw[Sg (by first|exact .inl (of_decide_eq_true h_p1)|exact .inr (of_decide_eq_true h_p2))];rfl)|(refine⟨?_,hr.1⟩;rw[show Da b=false by unfold Da;rw[hgo,Bj hk,JC (by unfold IW;rw[h_q2,h_q3,h_q4];rfl)]];rfl)|(refine⟨?_,hr.1⟩;rw[Sf (hgo.trans rfl) (of_decide_eq_false h_p1) (by have:=of_decide_eq_false h_p2;unfold Dq at *; omega)];rfl))
    ·refine k_k ?_
     have hlt:i<b.length:=by have:=of_decide_eq_true h_q;omega
     obtain⟨c,hk⟩:=EV hlt;have hc8:=h8 c (List.mem_of_getElem? hk);obtain⟨q2,h_q2⟩: ∃q2,decide (i=0)=q2:=⟨_,rfl⟩
     obtain⟨q3,h_q3⟩: ∃q3,decide (b.getD (i-1) 0<128)=q3:=⟨_,rfl⟩
     obtain⟨q4,h_q4⟩: ∃q4,decide (c=128)=q4:=⟨_,rfl⟩
     have h_q2':=(CM i 0).trans h_q2;have h_q3':=(CL (b.getD (i-1) 0) 128).trans h_q3;have h_q4':=(CM c 128).trans h_q4;cases q2<;>cases q3<;>cases q4<;>
     (
      iterate 7 refine k_k ?_
      refine k_s (by exact CF (k:=i) rfl gg rfl rfl underlying9 (hk) (hc8)) ?_;refine k_s (by exact Ag rfl gg rfl rfl h_q4') ?_;refine BP ?_;refine Po ?_;iterate 3 refine k_0 ?_
      refine k_s (by first|exact Ev.skip (fun _=>rfl)|exact Bu (c:=((i-1:Nat):Int)) rfl (fun _=>rfl) rfl rfl (by have:=of_decide_eq_false h_q2;rw[Ah (by omega) (by omega)];omega)) ?_;refine k_s (by first|exact Ev.skip (fun _=>rfl)|exact CF (k:=i-1) rfl (fun _=>rfl) rfl rfl underlying9 (Jc (by have:=of_decide_eq_false h_q2;omega)) (h8 _ (List.mem_of_getElem? (Jc (by have:=of_decide_eq_false h_q2;omega))))) ?_;refine k_s (by first|exact Ev.skip (fun _=>rfl)|exact D8 rfl (fun _=>rfl) rfl rfl h_q3') ?_;refine Eo ?_;iterate 2 refine k_k ?_
      first
      |(
       refine Ke ?_;refine AD (AH results101 (AF rfl)) ?_;intro ρ w' hr
       (first|(refine⟨?_,hr.1⟩;rw[Sg (by first|exact .inl (of_decide_eq_true h_p1)|exact .inr (of_decide_eq_true h_p2))];rfl)|(refine⟨?_,hr.1⟩;rw[show Da b=false by unfold Da;rw[hgo,Bj hk,JC (by unfold IW;rw[h_q2,h_q3,h_q4];rfl)]];rfl)|(refine⟨?_,hr.1⟩;rw[Sf (hgo.trans rfl) (of_decide_eq_false h_p1) (by have:=of_decide_eq_false h_p2;unfold Dq at *; omega)];rfl))
       )
      |(
       iterate 4 refine k_k ?_
       refine ER ?_;iterate 2 refine k_k ?_
       refine⟨⟨i+1,by omega,by rw[hgo,Bj hk,rG hk,PI (by unfold IW;rw[h_q2,h_q3,h_q4];rfl)]⟩,by show b.length-(i+1)<b.length-i;omega,?_⟩;exact Ar (fun i=>i==0||i==1||i==4||i==5||i==6) []
       )
     )
   ·exact Ar (fun i=>i==0||i==1||i==4||i==5||i==6) []
   )
 )
theorem kj(b:List Nat):(decide (b=[0])||decide (b=[255]))=ML b:=by
 match b with
 | []=>rfl
 | [x]=>simp[ML]
 |x::y::r=>simp[ML]
theorem iL(tag:Int)(h8: ∀x∈b,x<256)(hm:b.length≤1048576)(w:World):Calls prog 101 #[.int .i64 tag,.string (AB b)] w fun e w'=>e= .returned (.bool (Fg tag b))∧Bw w w':=by
 unfold Fg;by_cases h1:tag=1
 ·subst h1;have:=iW h8 hm w;rw[kj]at this;exact this
 by_cases h2:tag=2
 ·subst h2
  match b,h8,hm with
  | [],_,_=>exact iS w
  | [x],_,_=>exact iR w
  |x::y::r,h8,_=>exact iU h8 w
 by_cases h3:tag=3
 ·subst h3
  match b,h8,hm with
  | [],_,_=>exact iP w
  |b0::r,h8,hm=>exact iQ h8 hm w
 by_cases h4:tag=4
 ·subst h4;exact iO h8 hm w
 by_cases h6:tag=6
 ·subst h6;exact iM h8 hm w
 by_cases h12:tag=12
 ·subst h12;exact iV h8 hm w
 have:=iX h8 hm tag h1 h2 h3 h4 h6 h12 w;simp only[decide_eq_false h1,decide_eq_false h2,decide_eq_false h3,decide_eq_false h4,decide_eq_false h6,decide_eq_false h12,cond_false];exact this
def Ul(t:Tr):Prop:= ∀(d:Nat) (xs:List Value) (w:World) (S:Nat→Prop),d≤9→RN w S t xs→Calls prog 55 #[.agg xs.toArray,.int .i64 (d:Nat)] w fun e w'=>e= .returned (.bool (Ak t d))∧Bw w w'
theorem DI{α:Type}{l:List α}(h:l.length=3): ∃a b c,l=[a,b,c]:=by
 match l,h with
 | [a,b,c],_=>exact⟨a,b,c,rfl⟩
theorem lK(b:List Nat):decide (b≠[])=decide (b.length>0):=by cases b<;>simp
theorem fk{t:Int}{kv:Value}{cs:List Value}{d:Nat}(hih: ∀k∈ks,Ul k)(hv:AO w kv ks.length 3 cs S)(hn:RNs w S ks cs)(h8: ∀x∈b,x<256)(hbl:b.length≤1048576)(hm:ks.length≤1048576)(hd9:d≤9):Calls prog 55 #[.agg #[.int .i64 t,.string (AB b),kv],.int .i64 (d:Nat)] w fun e w'=>e= .returned (.bool (Ak (.mk t b ks) d))∧Bw w w':=by
 unfold Ak;obtain⟨q1,h_q1⟩: ∃p,decide (d>8)=p:=⟨_,rfl⟩
 obtain⟨q2m,h_q2m⟩: ∃p,CB t=p:=⟨_,rfl⟩
 obtain⟨q3,h_q3⟩: ∃p,decide (ks.length=0)=p:=⟨_,rfl⟩
 obtain⟨q5,h_q5⟩: ∃p,decide (b.length>0)=p:=⟨_,rfl⟩
 obtain⟨q6,h_q6⟩: ∃p,decide (ks.length>20)=p:=⟨_,rfl⟩
 rw[h_q1,h_q2m,h_q3,h_q5,h_q6];have h_q1':=(Cr d 8).trans h_q1;have h_q3':=(CM ks.length 0).trans h_q3;have h_q5':=(lK b).trans h_q5;have h_q6':=(Cr ks.length 20).trans h_q6
 go_enter func55,ntmps55
 refine EQ ?_
 refine k_s (by exact BV rfl gg rfl rfl h_q1') ?_;refine k_k ?_;cases q1
 ·iterate 5 refine k_k ?_
  refine HR ?_;refine DJ ?_;refine k_s (by exact Ad (v:= .bool q2m) rfl gg rfl (eo func100) (fun w' hb=>h_q2m▸Ru t w')) ?_;iterate 2 refine k_k ?_
  cases q2m
  ·refine k_k ?_
   cases q3<;>
   (
    iterate 2 refine k_k ?_
    refine JX ?_;refine Ku ?_;refine k_s (by exact BU rfl gg rfl underlying69 (AW hv)) ?_;refine k_s (by exact Ag rfl gg rfl rfl h_q3') ?_;refine k_k ?_;refine k_s (by first|exact Ev.skip (fun _=>rfl)|exact BG rfl (fun _=>rfl) rfl underlying71 rfl sizeOf3|exact BF rfl (fun _=>rfl) rfl underlying71 rfl sizeOf3) ?_;refine Ze ?_;refine Ky ?_;refine Kx ?_;refine k_s (by first|exact Ev.skip (fun _=>rfl)|exact Ad rfl (fun _=>rfl) rfl (eo func101) (fun w' hb=>iL t h8 hbl w')) ?_;iterate 3 refine k_k ?_
    refine AG ?_;refine AD (AH results55 (AF rfl)) ?_;intro ρ w' hr
    (first|exact⟨rfl,hr.1⟩|(refine⟨?_,hr.1⟩;rw[hidx];rfl)|(refine⟨?_,hr.1⟩;rw[hidx,Bj hk];simp only[Bs,h_q2];rfl))
   )
  ·refine k_k ?_
   cases q5<;>cases q6<;>
   (
    iterate 4 refine k_k ?_
    refine Mu ?_;refine P0 ?_;refine k_s (by exact AK rfl gg rfl rfl (fun w=>Hp (b:=[]) h_q5' h8 (by simp) _ _ w)) ?_;refine k_k ?_;refine k_s (by first|exact Ev.skip (fun _=>rfl)|exact BG rfl (fun _=>rfl) rfl underlying71 rfl sizeOf69|exact BF rfl (fun _=>rfl) rfl underlying71 rfl sizeOf69) ?_;refine k_s (by first|exact Ev.skip (fun _=>rfl)|exact BK rfl (fun _=>rfl) rfl rfl underlying69 rfl rfl|exact BR rfl (fun _=>rfl) rfl underlying69 rfl (by assumption)) ?_;refine k_s (by first|exact Ev.skip (fun _=>rfl)|exact BU rfl (fun _=>rfl) rfl underlying69 (AW hv)) ?_;refine k_s (by first|exact Ev.skip (fun _=>rfl)|exact BV rfl (fun _=>rfl) rfl rfl h_q6') ?_;iterate 2 refine k_k ?_
    first
    |(
     refine Ke ?_;refine AD (AH results55 (AF rfl)) ?_;intro ρ w' hr
     (first|exact⟨rfl,hr.1⟩|(refine⟨?_,hr.1⟩;rw[hidx];rfl)|(refine⟨?_,hr.1⟩;rw[hidx,Bj hk];simp only[Bs,h_q2];rfl))
     )
    |(
     iterate 8 refine k_k ?_
     refine Bo (α:={i:Nat // i≤ks.length∧Bs ks (d+1)=Bs (ks.drop i) (d+1)}) (fun(x:{i:Nat // i≤ks.length∧Bs ks (d+1)=Bs (ks.drop i) (d+1)}) f=>⟨[.v (f 0),.v (.int .i64 (d:Nat)),.p 2 0,.v (f 3),.v (.bool false),.v (.int .i64 (x.1:Nat)),.v (f 6),.v (f 7),.v (f 8),.v (f 9),.v (f 10),.v (f 11),.v (f 12),.v (f 13),.v (f 14),.v (f 15),.v (f 16),.v (f 17),.v (f 18),.v (f 19),.v (f 20),.v (f 21),.v (f 22),.v (f 23),.v (f 24),.v (f 25),.v (f 26),.v (f 27),.v (f 28),.v (f 29),.v (f 30),.v (f 31),.v (f 32),.v (f 33),.v (f 34),.v (f 35),.v (f 36),.v (f 37),.v (f 38),.v (f 39),.v (f 40),.v (f 41),.v (f 42),.v (f 43),.v (f 44),.v (f 45),.v (f 46),.v (f 47)],AJ [(2,.cells [.v (.int .i64 t),.v (.string (AB b)),.v kv] 71)]⟩) (fun x=>ks.length-x.1) ?_ (⟨0,Nat.zero_le _,rfl⟩) ?_
     ·rintro⟨i,hi,hidx⟩ f
      obtain⟨q,h_q⟩: ∃q,decide ((i:Int)<(ks.length:Int))=q:=⟨_,rfl⟩
      refine CN ?_
      refine JX ?_;refine Ku ?_;refine k_s (by exact BU rfl gg rfl underlying69 (AW hv)) ?_;refine M9 ?_;refine k_k ?_;cases q
      ·refine k_k ?_
       have hge:ks.length≤i:=by have:=of_decide_eq_false h_q;omega
       rw[List.drop_eq_nil_of_le hge]at hidx;refine As ?_;refine CN ?_
       refine AG ?_;refine AD (AH results55 (AF rfl)) ?_;intro ρ w' hr
       (first|exact⟨rfl,hr.1⟩|(refine⟨?_,hr.1⟩;rw[hidx];rfl)|(refine⟨?_,hr.1⟩;rw[hidx,Bj hk];simp only[Bs,h_q2];rfl))
      ·refine k_k ?_
       have hlt:i<ks.length:=by have:=of_decide_eq_true h_q;omega
       obtain⟨kk,hk⟩:=EV hlt;obtain⟨x,hx,hrn⟩:=Nw hn hk;have hx3:=Cu hrn;obtain⟨x0,x1,x2,rfl⟩:=DI hx3;obtain⟨q2,h_q2⟩: ∃q2,Ak kk (d+1)=q2:=⟨_,rfl⟩
       iterate 5 refine k_k ?_
       refine JX ?_;refine Ku ?_;refine k_k ?_;refine k_s (by exact Bc (k:=i) rfl gg rfl rfl underlying69 sizeOf71 (AW hv) (hlt) (by decide)) ?_;refine k_s (by exact LF rfl gg rfl underlying71 rfl sizeOf71 (AW hv) (hx) rfl (by decide)) ?_;refine k_k ?_;refine Px ?_;refine k_s (by exact Ad (v:= .bool q2) rfl gg rfl (eo func55) (fun w' hb=>h_q2▸hih kk (List.mem_of_getElem? hk) (d+1) _ w' _ (by have:=of_decide_eq_false h_q1;omega) (G9 hb hrn))) ?_;iterate 2 refine k_k ?_
       cases q2
       ·iterate 5 refine k_k ?_
        refine AG ?_;refine AD (AH results55 (AF rfl)) ?_;intro ρ w' hr
        (first|exact⟨rfl,hr.1⟩|(refine⟨?_,hr.1⟩;rw[hidx];rfl)|(refine⟨?_,hr.1⟩;rw[hidx,Bj hk];simp only[Bs,h_q2];rfl))
       ·iterate 4 refine k_k ?_
        refine ER ?_;iterate 2 refine k_k ?_
        refine⟨⟨i+1,by omega,by rw[hidx,Bj hk];simp only[Bs,h_q2];rfl⟩,by show ks.length-(i+1)<ks.length-i;omega,?_⟩;exact Ar (fun i=>i==1||i==2||i==4||i==5) []
     ·exact Ar (fun i=>i==1||i==2||i==4||i==5) []
     )
   )
 ·iterate 5 refine k_k ?_
  refine AG ?_;refine AD (AH results55 (AF rfl)) ?_;intro ρ w' hr
  (first|exact⟨rfl,hr.1⟩|(refine⟨?_,hr.1⟩;rw[hidx];rfl)|(refine⟨?_,hr.1⟩;rw[hidx,Bj hk];simp only[Bs,h_q2];rfl))
mutual
theorem Od: ∀t:Tr,t.ok→Ul t
 | .mk t b ks,h=>fun d xs w S hd hx=>by
   simp only[Tr.ok]at h;simp only[RN]at hx;obtain⟨kv,cs,rfl,h3,h4⟩:=hx;exact fk w (V5 ks h.2.2.2) h3 h4 h.1 h.2.1 h.2.2.1 hd
theorem V5: ∀ks:List Tr,oks ks→ ∀k∈ks,Ul k
 | [],_=>fun k hk=>by cases hk
 |k0::ks,h=>fun k hk=>by
  simp only[oks]at h;rcases List.mem_cons.1 hk with e|hk
  ·exact e▸Od k0 h.1
  ·exact V5 ks h.2 k hk
end
def n8(n:Nat):Nat:=n %256
theorem pF(n:Nat)(w:World):(convert 3 5 (.int .i64 (n:Nat))).run prog w= .ok (.int .u8 ((n8 n:Nat):Int)) w:=by
 unfold convert
 go_simp
 rw[IntKind.wrap_u8'];rfl
def tb(t:Int):Nat:=(t %256).toNat
theorem T7(t:Int)(w:World):(convert 3 5 (.int .i64 t)).run prog w= .ok (.int .u8 ((tb t:Nat):Int)) w:=by
 unfold convert
 go_simp
 rw[IntKind.wrap_u8'];unfold tb;omega
def hb(n k:Nat):Nat:=n/2^k
theorem Ro(n:Nat)(_hn:n<9223372036854775808)(p q:Operand)(w:World):(do eqGuard .shr 3 p q (.int .i64 (n:Nat)) (.int .u64 8);binOp .shr 3 (.int .i64 (n:Nat)) (.int .u64 8):Sem Value).run prog w= .ok (.int .i64 ((hb n 8:Nat):Int)) w:=by
 go_simp
 unfold hb;try rfl
theorem fP(n:Nat)(_hn:n<9223372036854775808)(p q:Operand)(w:World):(do eqGuard .shr 3 p q (.int .i64 (n:Nat)) (.int .u64 16);binOp .shr 3 (.int .i64 (n:Nat)) (.int .u64 16):Sem Value).run prog w= .ok (.int .i64 ((hb n 16:Nat):Int)) w:=by
 go_simp
 unfold hb;try rfl
def Ao(n:Nat):List Nat:=bif decide (n<128)then [n8 n]else bif decide (n<256)then [129,n8 n]else bif decide (n<65536)then [130,n8 (hb n 8),n8 n]else [131,n8 (hb n 16),n8 (hb n 8),n8 n]
theorem ov(n c:Nat)(p q:Operand)(w:World):(do eqGuard .eql 23 p q (.slice none n c) (.slice none 0 0);binOp .eql 23 (.slice none n c) (.slice none 0 0):Sem Value).run prog w= .ok (.bool true) w:=by
 go_simp
 exact Go.Lib.run_eql_slice_nil_nil w n c underlying23
theorem ow(a:Addr)(n c:Nat)(p q:Operand)(w:World):(do eqGuard .eql 23 p q (.slice (some a) n c) (.slice none 0 0);binOp .eql 23 (.slice (some a) n c) (.slice none 0 0):Sem Value).run prog w= .ok (.bool false) w:=by
 go_simp
 exact Go.Lib.run_eql_slice_some_nil w a n c underlying23
theorem Ri:AO w (.slice none 0 0) 0 1 [] (fun _=>False):=⟨none,0,rfl,Nat.le_refl _,rfl,.inl rfl⟩
theorem pM(n:Nat)(hn:n<9223372036854775808)(w:World):Calls prog 96 #[.int .i64 (n:Nat)] w fun e w'=> ∃v,e= .returned v∧BN w w' v ((Ao n).length) 1 5 ((Ao n).map b8)∧Bw w w':=by
 unfold Ao;obtain⟨q1,h_q1⟩: ∃p,decide (n<128)=p:=⟨_,rfl⟩
 obtain⟨q2,h_q2⟩: ∃p,decide (n<256)=p:=⟨_,rfl⟩
 obtain⟨q3,h_q3⟩: ∃p,decide (n<65536)=p:=⟨_,rfl⟩
 rw[h_q1,h_q2,h_q3];have h_q1':=(CL n 128).trans h_q1;have h_q2':=(CL n 256).trans h_q2;have h_q3':=(CL n 65536).trans h_q3
 go_enter func96,ntmps96
 refine EQ ?_
 refine k_s (by exact D8 rfl gg rfl rfl h_q1') ?_;iterate 2 refine k_k ?_
 cases q1
 ·iterate 4 refine k_k ?_
  refine k_s (by exact D8 rfl gg rfl rfl h_q2') ?_;iterate 2 refine k_k ?_
  cases q2
  ·iterate 4 refine k_k ?_
   refine k_s (by exact D8 rfl gg rfl rfl h_q3') ?_;iterate 2 refine k_k ?_
   cases q3
   ·iterate 5 refine k_k ?_
    refine k_s (by exact AK rfl gg rfl rfl (fun w=>fP _ hn _ _ w)) ?_;refine FQ ?_;refine k_k ?_;refine k_s (by exact AK rfl gg rfl rfl (fun w=>Ro _ hn _ _ w)) ?_;refine FQ ?_;refine k_k ?_;refine FQ ?_;refine k_s (by exact BL rfl rfl gg rfl (e:=5) (l:=[b8 (131),b8 (n8 (hb n 16)),b8 (n8 (hb n 8)),b8 (n8 n)]) rfl (by decide) (fun _=>by kernel_rfl)) ?_;iterate 2 refine k_k ?_
    refine AG ?_;refine AD (AH results96 (AF rfl)) ?_;intro ρ w' hr;exact⟨_,rfl,B8 hr rfl,hr.1⟩
   ·iterate 4 refine k_k ?_
    refine k_s (by exact AK rfl gg rfl rfl (fun w=>Ro _ hn _ _ w)) ?_;refine FQ ?_;refine k_k ?_;refine FQ ?_;refine k_s (by exact BL rfl rfl gg rfl (e:=5) (l:=[b8 (130),b8 (n8 (hb n 8)),b8 (n8 n)]) rfl (by decide) (fun _=>by kernel_rfl)) ?_;iterate 2 refine k_k ?_
    refine AG ?_;refine AD (AH results96 (AF rfl)) ?_;intro ρ w' hr;exact⟨_,rfl,B8 hr rfl,hr.1⟩
  ·iterate 4 refine k_k ?_
   refine FQ ?_;refine k_s (by exact BL rfl rfl gg rfl (e:=5) (l:=[b8 (129),b8 (n8 n)]) rfl (by decide) (fun _=>by kernel_rfl)) ?_;iterate 2 refine k_k ?_
   refine AG ?_;refine AD (AH results96 (AF rfl)) ?_;intro ρ w' hr;exact⟨_,rfl,B8 hr rfl,hr.1⟩
 ·iterate 4 refine k_k ?_
  refine FQ ?_;refine k_s (by exact BL rfl rfl gg rfl (e:=5) (l:=[b8 (n8 n)]) rfl (by decide) (fun _=>by kernel_rfl)) ?_;iterate 2 refine k_k ?_
  refine AG ?_;refine AD (AH results96 (AF rfl)) ?_;intro ρ w' hr;exact⟨_,rfl,B8 hr rfl,hr.1⟩
theorem pc{c:Nat}:Calls prog 63 #[.slice none n c] w fun e w'=> ∃v,e= .returned v∧BN w w' v (0) 1 5 ([])∧Bw w w':=by
 go_enter func63,ntmps63
 refine Dr ?_
 refine k_s (by exact AK (c:= .bool true) rfl gg rfl rfl (fun w=>ov _ _ _ _ w)) ?_;iterate 6 refine k_k ?_
 refine AG ?_;refine AD (AH results63 (AF rfl)) ?_;intro ρ w' hr;exact⟨_,rfl,I1 _ _ _ _,hr.1⟩
theorem pb{a:Addr}{c:Nat}(hv:AO w (.slice (some a) n c) bs.length 1 (bs.map b8) S)(hm:bs.length≤1073741824):Calls prog 63 #[.slice (some a) n c] w fun e w'=> ∃v,e= .returned v∧BN w w' v (bs.length) 1 5 (bs.map b8)∧Bw w w':=by
 go_enter func63,ntmps63
 refine Dr ?_
 refine k_s (by exact AK (c:= .bool false) rfl gg rfl rfl (fun w=>ow _ _ _ _ _ w)) ?_;iterate 5 refine k_k ?_
 refine k_s (by exact BL rfl rfl gg rfl (e:=5) (l:=[]) rfl (by decide) (fun _=>by kernel_rfl)) ?_;refine k_k ?_;refine k_s (by exact Di rfl rfl gg rfl rfl rfl (AW hv) underlying23 el5 (by decide) rfl (DR bs) (by simp only[maxLen];omega) (by omega) (by simp)) ?_;iterate 2 refine k_k ?_
 refine AG ?_;refine AD (AH results63 (AF rfl)) ?_;intro ρ w' hr;exact⟨_,rfl,B8 (id:=7) hr rfl,hr.1⟩
theorem Nl{v:Value}(hv:AO w v bs.length 1 (bs.map b8) S)(hm:bs.length≤1073741824):Calls prog 63 #[v] w fun e w'=> ∃v,e= .returned v∧BN w w' v (bs.length) 1 5 (bs.map b8)∧Bw w w':=by
 have hv':=hv;obtain⟨ao,cap,rfl,h1,h2,h3⟩:=hv';cases ao with
 |none=>
  have:bs=[]:=by
   rcases h3 with h3|⟨a,h3,_⟩
   ·simpa using h3
   ·cases h3
  subst this;exact pc w
 |some a=>exact pb w hv hm
theorem ni(n:Nat)(hn:n≤140737488355328)(w:World):Calls prog 150 #[.slice none 0 0,.int .i64 (n:Nat)] w fun e w'=> ∃v,e= .returned v∧BN w w' v (0) 1 5 ([])∧Bw w w':=by
 obtain⟨q,h_q⟩: ∃p,decide (n>0)=p:=⟨_,rfl⟩
 have h_q':=(Cr n 0).trans h_q
 go_enter func150,ntmps150
 refine Dr ?_
 refine Pn ?_;iterate 8 refine k_k ?_
 refine k_s (by refine D6 gg (fun ρ w=>by simp only[VS.act,SV.c,List.map_cons,List.map_nil];go_simp;exact rfl) (fun _ _=>rfl)) ?_;refine k_k ?_;refine k_s (by exact BU rfl gg rfl underlying23 (AW (Ri w))) ?_;refine k_s (by exact Bu (c:=0) rfl gg rfl rfl rfl) ?_;refine k_s (by exact Bu (c:=((n:Nat):Int)) rfl gg rfl rfl (by rw[Ah (by omega) (by omega)];omega)) ?_;iterate 5 refine k_k ?_
 refine Kz ?_;refine k_k ?_;cases q
 ·iterate 7 refine k_k ?_
  refine AG ?_;refine AD (AH results150 (AF rfl)) ?_;intro ρ w' hr
  (first|exact⟨_,rfl,I1 _ _ _ _,hr.1⟩|exact⟨_,rfl,B8 hr rfl,hr.1⟩)
 ·iterate 4 refine k_k ?_
  refine k_s (by refine D6 gg (fun ρ w=>by simp only[VS.act,SV.c,List.map_cons,List.map_nil];go_simp;exact rfl) (fun _ _=>rfl)) ?_;refine k_s (by exact Fa (a:=0) (b:=0) rfl gg rfl underlying23 sizeOf5 (AW (Ri w)) rfl rfl (by decide) (by decide) rfl) ?_;refine k_k ?_;refine k_s (by exact ou rfl rfl gg rfl rfl underlying23 underlying3 el5 zeroValue5 rfl (by have:=of_decide_eq_true h_q;omega) hn) ?_;refine k_k ?_;refine k_s (by exact BU rfl gg rfl underlying23 (AW (Ri w))) ?_;refine k_s (by exact oS (b:=0) rfl rfl gg rfl rfl underlying23 sizeOf5 rfl rfl (Nat.zero_le _) rfl (by simp)) ?_;iterate 7 refine k_k ?_
  refine AG ?_;refine AD (AH results150 (AF rfl)) ?_;intro ρ w' hr
  (first|exact⟨_,rfl,I1 _ _ _ _,hr.1⟩|exact⟨_,rfl,B8 hr rfl,hr.1⟩)
end Go.Proofs.YtafbhakmkbehiaaGreatDoor
