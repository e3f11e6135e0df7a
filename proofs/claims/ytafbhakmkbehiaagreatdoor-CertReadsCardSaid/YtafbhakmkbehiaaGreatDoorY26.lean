import Derived.Test.YtafbhakmkbehiaaGreatDoorY23
import Derived.Test.YtafbhakmkbehiaaGreatDoorY25
open Go.Proofs.Tryz
set_option maxHeartbeats 4000000
set_option maxRecDepth 100000
namespace Go.Proofs.YtafbhakmkbehiaaGreatDoor
open Go.RowKit Go.Vx
variable(w:World){ops:Array Oper}{b r:List Nat}{rd:List Nat→Tr×List Nat×Bool}{ks:List Tr}{d k n t tg x:Nat}{ρ:Nat→Nm}{ty:TypeId}{s:VS}{w0:World}
open Go.Toll (Gw)
theorem UR:prog.built 71 []=some #[.int .i64 0,.string (ByteArray.mk #[]),.slice none 0 0]:=by kernel_rfl
theorem qk(t:Int):prog.built 71 [(0,.int .i64 t)]=some #[.int .i64 t,.string (ByteArray.mk #[]),.slice none 0 0]:=by kernel_rfl
theorem qs(b:List Nat)(i j:Nat):(AB b).extract i j=AB ((b.drop i).take (j-i)):=by
 apply ByteArray.ext;simp only[AB,ByteArray.data_extract];apply Array.ext';simp[List.extract_eq_take_drop,List.map_take,List.map_drop]
theorem Tu{o:Oper}{x y z:Operand}{b':List Nat}{i j:Nat}(ho:o.op= .slice ty x (some y) (some z) none)(hgd:AQ ops o s)(hx:AE s x= .v (.string (AB b)))(hy:AE s y= .v (.int .i64 (i:Nat)))(hz:AE s z= .v (.int .i64 (j:Nat)))(hu:prog.underlying ty=some .string)(hij:i≤j)(hk:j≤b.length)(hb':(b.drop i).take (j-i)=b'):Ev prog ops w0 o s ⟨.v (.string (AB b')),[],[],[],[]⟩:=
 Ev.run _ _ hgd fun ρ S w hbw hR=>by
  subst hb';have e0:=AI s ρ x;rw[hx]at e0;have e1:=AI s ρ y;rw[hy]at e1;have e2:=AI s ρ z;rw[hz]at e2;simp only[SV.c]at e0 e1 e2;have h1:(0:Int)≤(j:Int)∧(j:Int)≤((AB b).size:Int):=by rw[Ff];omega
  have h2:(0:Int)≤(i:Int)∧(i:Int)≤(j:Int):=by omega
  have h3:=qs b i j;simp[execOp,ho,e0,e1,e2,SV.c,Instr.sliceAt,Instr.slice,Instr.sliceBounds,Instr.sliceBound,asIntOf,run_underlying hu,h1,h2];all_goals first|(rw[if_pos (by omega),if_pos (by omega),h3])|(rw[if_pos (by omega),h3])|(rw[if_pos (by rw[Ff];omega),if_pos (by omega),h3])|exact h3|omega
theorem mS(rd:List Nat→Tr×List Nat×Bool)(n:Nat)(acc:List Tr):Cx rd n [] acc=some acc:=by cases n<;>simp[Cx]
theorem Y6{l:List Nat}(hl:0<l.length)(n:Nat)(acc:List Tr):Cx rd (n+1) l acc=bif !(rd l).2.2 then none else Cx rd n (rd l).2.1 (acc++[(rd l).1]):=by
 cases l with
 |nil=>simp at hl
 |cons x r=>simp only[Cx]
theorem YK{w:World}(j:Nat){t:Int}(hr:Rel w0 ρ s w)(hn:ks.length=n)(h2:s.mem j=some (.row n 3 71 (Na ks))):
 Ae w0 w (.agg #[.int .i64 t,.string (AB b),(ρ j).val]) (AU (.mk t b ks)):=by
 subst hn;exact gE j hr h2
def ct(f:Nat):Prop:= ∀(b:List Nat) (d:Nat) (w:World),d+f=9→(∀x∈b,x<256)→b.length≤1048576→
    Calls prog 54 #[.string (AB b),.int .i64 (d:Nat)] w fun e w'=> ∃v',e= .returned (.tuple #[v',.string (AB (A7 f b).2.1),.bool (A7 f b).2.2])∧Ae w w' v' (AU ((A7 f b).1))∧Bw w w'
theorem kn(_h8: ∀x∈b,x<256)(_hbl:b.length≤1048576)(hb6:n<65536∧k≤4∧tg<256∧d≤8∧k≤b.length)(hn:n+k>b.length)(f:Nat→Value):VOk prog w ⟨[.v (.string (AB b)),.v (.int .i64 (d:Nat)),.v (f 2),.v (f 3),.p 4 0,.v (f 5),.v (f 6),.p 7 0,.v (.int .i64 (n:Nat)),.v (.int .i64 (k:Nat)),.v (f 10),.v (f 11),.v (f 12),.v (f 13),.v (f 14),.v (f 15),.v (f 16),.v (f 17),.v (f 18),.v (f 19),.v (f 20),.v (f 21),.v (f 22),.v (f 23),.v (f 24),.v (f 25),.v (f 26),.v (f 27),.v (f 28),.v (f 29),.v (f 30),.v (f 31),.v (f 32),.v (f 33),.v (f 34),.v (f 35),.v (f 36),.v (f 37),.v (f 38),.v (f 39),.v (f 40),.v (f 41),.v (f 42),.v (f 43),.v (f 44),.v (f 45),.v (f 46),.v (f 47),.v (f 48),.v (f 49),.v (f 50),.v (f 51),.v (f 52),.v (f 53),.v (f 54),.v (f 55),.v (f 56),.v (f 57),.v (f 58),.v (f 59),.v (f 60),.v (f 61),.v (f 62),.v (f 63),.v (f 64),.v (f 65),.v (f 66),.v (f 67),.v (f 68),.v (f 69),.v (f 70),.v (f 71),.v (f 72),.v (f 73),.v (f 74),.v (f 75),.v (f 76),.v (f 77),.v (f 78),.v (f 79),.v (f 80),.v (f 81),.v (f 82),.v (f 83),.v (f 84),.v (f 85),.v (f 86),.v (f 87),.v (f 88),.v (f 89),.v (f 90),.v (f 91),.v (f 92),.v (f 93),.v (f 94),.v (f 95),.v (f 96),.v (f 97),.v (f 98),.v (f 99),.v (f 100),.v (f 101),.v (f 102),.v (f 103),.v (f 104),.v (f 105),.v (f 106),.v (f 107),.v (f 108),.v (f 109),.v (f 110),.v (f 111),.v (f 112),.v (f 113),.v (f 114),.v (f 115)],AJ [(7,.cells [.v (.int .i64 (tg:Nat)),.v (.string (ByteArray.mk #[])),.v (.slice none 0 0)] 71),(4,.cells [.v (.int .i64 0),.v (.string (ByteArray.mk #[])),.v (.slice none 0 0)] 71)]⟩ (Cm 5 (Ct f54)) (QB prog f54 w fun e w'=> ∃v',e= .returned (.tuple #[v',.string (AB ([])),.bool false])∧Ae w w' v' (AU (noT))∧Bw w w'):=by
 iterate 5 refine k_k ?_
 refine Dd ?_;refine k_k ?_;refine TO ?_;refine Pk ?_;iterate 4 refine k_k ?_
 refine FW ?_;refine Kd ?_
 refine AG ?_;refine AD (BX results54 (Am rfl rfl underlying71 rfl sizeOf71 rfl) (AF rfl) (AF rfl)) ?_;intro ρ w' hr;refine⟨_,rfl,?_,hr.1⟩;exact Dm 0 []
theorem kq(h8: ∀x∈b,x<256)(hbl:b.length≤1048576)(hb6:n<65536∧k≤4∧tg<256∧d≤8∧k≤b.length)(hn:n+k≤b.length)(hm:CB tg=false)(f:Nat→Value):VOk prog w ⟨[.v (.string (AB b)),.v (.int .i64 (d:Nat)),.v (f 2),.v (f 3),.p 4 0,.v (f 5),.v (f 6),.p 7 0,.v (.int .i64 (n:Nat)),.v (.int .i64 (k:Nat)),.v (f 10),.v (f 11),.v (f 12),.v (f 13),.v (f 14),.v (f 15),.v (f 16),.v (f 17),.v (f 18),.v (f 19),.v (f 20),.v (f 21),.v (f 22),.v (f 23),.v (f 24),.v (f 25),.v (f 26),.v (f 27),.v (f 28),.v (f 29),.v (f 30),.v (f 31),.v (f 32),.v (f 33),.v (f 34),.v (f 35),.v (f 36),.v (f 37),.v (f 38),.v (f 39),.v (f 40),.v (f 41),.v (f 42),.v (f 43),.v (f 44),.v (f 45),.v (f 46),.v (f 47),.v (f 48),.v (f 49),.v (f 50),.v (f 51),.v (f 52),.v (f 53),.v (f 54),.v (f 55),.v (f 56),.v (f 57),.v (f 58),.v (f 59),.v (f 60),.v (f 61),.v (f 62),.v (f 63),.v (f 64),.v (f 65),.v (f 66),.v (f 67),.v (f 68),.v (f 69),.v (f 70),.v (f 71),.v (f 72),.v (f 73),.v (f 74),.v (f 75),.v (f 76),.v (f 77),.v (f 78),.v (f 79),.v (f 80),.v (f 81),.v (f 82),.v (f 83),.v (f 84),.v (f 85),.v (f 86),.v (f 87),.v (f 88),.v (f 89),.v (f 90),.v (f 91),.v (f 92),.v (f 93),.v (f 94),.v (f 95),.v (f 96),.v (f 97),.v (f 98),.v (f 99),.v (f 100),.v (f 101),.v (f 102),.v (f 103),.v (f 104),.v (f 105),.v (f 106),.v (f 107),.v (f 108),.v (f 109),.v (f 110),.v (f 111),.v (f 112),.v (f 113),.v (f 114),.v (f 115)],AJ [(7,.cells [.v (.int .i64 (tg:Nat)),.v (.string (ByteArray.mk #[])),.v (.slice none 0 0)] 71),(4,.cells [.v (.int .i64 0),.v (.string (ByteArray.mk #[])),.v (.slice none 0 0)] 71)]⟩ (Cm 5 (Ct f54)) (QB prog f54 w fun e w'=> ∃v',e= .returned (.tuple #[v',.string (AB (b.drop (k+n))),.bool true])∧Ae w w' v' (AU (.mk tg ((b.drop k).take n) []))∧Bw w w'):=by
 have hil:=(HK hn).1;obtain⟨L,hL⟩: ∃L,(b.drop k).take n=L:=⟨_,rfl⟩
 rw[hL]at hil;have hLL:(b.drop k).take (k+n-k)=L:=by rw[Nat.add_sub_cancel_left];exact hL
 have hL8: ∀x∈L,x<256:=fun x hx=>h8 x (List.mem_of_mem_drop (List.mem_of_mem_take (hL▸hx)))
 rw[hL];iterate 5 refine k_k ?_
 refine Dd ?_;refine k_k ?_;refine TO ?_;refine FS ?_;iterate 9 refine k_k ?_
 refine IP ?_;refine k_s (by exact Tu (b':=L) (i:=k) (j:=k+n) rfl gg rfl rfl rfl underlying9 (by omega) (by omega) hLL) ?_;iterate 5 refine k_k ?_
 refine HR ?_;refine DJ ?_;refine k_s (by exact Ad (v:= .bool false) rfl gg rfl (eo func100) (fun w' hb=>by have:=Ru (tg:Int) w';rw[hm]at this;exact this)) ?_;iterate 6 refine k_k ?_
 refine Mu ?_;refine k_s (by exact BA rfl gg rfl rfl rfl sizeOf9 rfl (by simp) rfl) ?_;iterate 3 refine k_k ?_
 refine JZ ?_;iterate 3 refine k_k ?_
 refine IP ?_;refine k_s (by exact IT (k:=k+n) (b':=b.drop (k+n)) rfl gg rfl rfl underlying9 (by omega) rfl) ?_;refine k_s (by first|exact BA rfl gg rfl rfl rfl sizeOf71 rfl (by simp) rfl|exact oD rfl gg rfl rfl rfl sizeOf71 rfl (by simp) (fun _=>rfl)) ?_;iterate 3 refine k_k ?_
 refine AG ?_;refine AD (BX results54 (Am rfl rfl underlying71 rfl sizeOf71 rfl) (AF rfl) (AF rfl)) ?_;intro ρ w' hr;refine⟨_,rfl,?_,hr.1⟩;exact Dm (tg:Int) L
theorem ko{f':Nat}{K:Option (List Tr)}(h8: ∀x∈b,x<256)(hbl:b.length≤1048576)(hb6:n<65536∧k≤4∧tg<256∧d≤8∧k≤b.length)(hn:n+k≤b.length)(hm:CB tg=true)(hih:ct f')(hdf:d+1+f'=9)(hK0:Cx (A7 f') n ((b.drop k).take n) []=K)(f:Nat→Value):VOk prog w ⟨[.v (.string (AB b)),.v (.int .i64 (d:Nat)),.v (f 2),.v (f 3),.p 4 0,.v (f 5),.v (f 6),.p 7 0,.v (.int .i64 (n:Nat)),.v (.int .i64 (k:Nat)),.v (f 10),.v (f 11),.v (f 12),.v (f 13),.v (f 14),.v (f 15),.v (f 16),.v (f 17),.v (f 18),.v (f 19),.v (f 20),.v (f 21),.v (f 22),.v (f 23),.v (f 24),.v (f 25),.v (f 26),.v (f 27),.v (f 28),.v (f 29),.v (f 30),.v (f 31),.v (f 32),.v (f 33),.v (f 34),.v (f 35),.v (f 36),.v (f 37),.v (f 38),.v (f 39),.v (f 40),.v (f 41),.v (f 42),.v (f 43),.v (f 44),.v (f 45),.v (f 46),.v (f 47),.v (f 48),.v (f 49),.v (f 50),.v (f 51),.v (f 52),.v (f 53),.v (f 54),.v (f 55),.v (f 56),.v (f 57),.v (f 58),.v (f 59),.v (f 60),.v (f 61),.v (f 62),.v (f 63),.v (f 64),.v (f 65),.v (f 66),.v (f 67),.v (f 68),.v (f 69),.v (f 70),.v (f 71),.v (f 72),.v (f 73),.v (f 74),.v (f 75),.v (f 76),.v (f 77),.v (f 78),.v (f 79),.v (f 80),.v (f 81),.v (f 82),.v (f 83),.v (f 84),.v (f 85),.v (f 86),.v (f 87),.v (f 88),.v (f 89),.v (f 90),.v (f 91),.v (f 92),.v (f 93),.v (f 94),.v (f 95),.v (f 96),.v (f 97),.v (f 98),.v (f 99),.v (f 100),.v (f 101),.v (f 102),.v (f 103),.v (f 104),.v (f 105),.v (f 106),.v (f 107),.v (f 108),.v (f 109),.v (f 110),.v (f 111),.v (f 112),.v (f 113),.v (f 114),.v (f 115)],AJ [(7,.cells [.v (.int .i64 (tg:Nat)),.v (.string (ByteArray.mk #[])),.v (.slice none 0 0)] 71),(4,.cells [.v (.int .i64 0),.v (.string (ByteArray.mk #[])),.v (.slice none 0 0)] 71)]⟩ (Cm 5 (Ct f54)) (QB prog f54 w fun e w'=> ∃v',e= .returned (.tuple #[v',.string (AB (match K with|none=>[]|some _=>b.drop (k+n))),.bool K.isSome])∧Ae w w' v' (AU (match K with|none=>noT|some ks=> .mk tg [] ks))∧Bw w w'):=by
 have hil:=(HK hn).1;obtain⟨L,hL⟩: ∃L,(b.drop k).take n=L:=⟨_,rfl⟩
 rw[hL]at hil;have hLL:(b.drop k).take (k+n-k)=L:=by rw[Nat.add_sub_cancel_left];exact hL
 have hL8: ∀x∈L,x<256:=fun x hx=>h8 x (List.mem_of_mem_drop (List.mem_of_mem_take (hL▸hx)))
 rw[hL]at hK0;have hK:=hK0;clear hK0;iterate 5 refine k_k ?_
 refine Dd ?_;refine k_k ?_;refine TO ?_;refine FS ?_;iterate 9 refine k_k ?_
 refine IP ?_;refine k_s (by exact Tu (b':=L) (i:=k) (j:=k+n) rfl gg rfl rfl rfl underlying9 (by omega) (by omega) hLL) ?_;iterate 5 refine k_k ?_
 refine HR ?_;refine DJ ?_;refine k_s (by exact Ad (v:= .bool true) rfl gg rfl (eo func100) (fun w' hb=>by have:=Ru (tg:Int) w';rw[hm]at this;exact this)) ?_;iterate 6 refine k_k ?_
 refine Bo (α:={x:Nat×(Nat×List Nat)×List Tr // x.2.2.length=x.1∧x.1+x.2.1.1≤n∧x.2.1.2.length≤x.2.1.1∧x.2.1.2.length≤1048576∧(∀y∈x.2.1.2,y<256)∧Cx (A7 f') x.2.1.1 x.2.1.2 x.2.2=K}) (fun(x:{x:Nat×(Nat×List Nat)×List Tr // x.2.2.length=x.1∧x.1+x.2.1.1≤n∧x.2.1.2.length≤x.2.1.1∧x.2.1.2.length≤1048576∧(∀y∈x.2.1.2,y<256)∧Cx (A7 f') x.2.1.1 x.2.1.2 x.2.2=K}) f=>⟨[.v (.string (AB b)),.v (.int .i64 (d:Nat)),.v (f 2),.v (f 3),.p 4 0,.v (f 5),.v (f 6),.p 7 0,.v (.int .i64 (n:Nat)),.v (.int .i64 (k:Nat)),.v (f 10),.v (f 11),.v (.string (AB x.1.2.1.2)),.v (f 13),.v (f 14),.v (f 15),.v (f 16),.v (f 17),.v (f 18),.v (f 19),.v (f 20),.v (f 21),.v (f 22),.v (f 23),.v (f 24),.v (f 25),.v (f 26),.v (f 27),.v (f 28),.v (f 29),.v (f 30),.v (f 31),.v (f 32),.v (f 33),.v (f 34),.v (f 35),.v (f 36),.v (f 37),.v (f 38),.v (f 39),.v (f 40),.v (f 41),.v (f 42),.v (f 43),.v (f 44),.v (f 45),.v (f 46),.v (f 47),.v (f 48),.v (f 49),.v (f 50),.v (f 51),.v (f 52),.v (f 53),.v (f 54),.v (f 55),.v (f 56),.v (f 57),.v (f 58),.v (f 59),.v (f 60),.v (f 61),.v (f 62),.v (f 63),.v (f 64),.v (f 65),.v (f 66),.v (f 67),.v (f 68),.v (f 69),.v (f 70),.v (f 71),.v (f 72),.v (f 73),.v (f 74),.v (f 75),.v (f 76),.v (f 77),.v (f 78),.v (f 79),.v (f 80),.v (f 81),.v (f 82),.v (f 83),.v (f 84),.v (f 85),.v (f 86),.v (f 87),.v (f 88),.v (f 89),.v (f 90),.v (f 91),.v (f 92),.v (f 93),.v (f 94),.v (f 95),.v (f 96),.v (f 97),.v (f 98),.v (f 99),.v (f 100),.v (f 101),.v (f 102),.v (f 103),.v (f 104),.v (f 105),.v (f 106),.v (f 107),.v (f 108),.v (f 109),.v (f 110),.v (f 111),.v (f 112),.v (f 113),.v (f 114),.v (f 115)],AJ [(900,.row x.1.1 3 71 (Na x.1.2.2)),(7,.cells [.v (.int .i64 (tg:Nat)),.v (.string (ByteArray.mk #[])),.d 900] 71),(4,.cells [.v (.int .i64 0),.v (.string (ByteArray.mk #[])),.v (.slice none 0 0)] 71)]⟩) (fun x=>x.1.2.1.1) ?_ (⟨(0,(n,L),[]),rfl,by show 0+n≤n;omega,by show L.length≤n;omega,by show L.length≤1048576;omega,hL8,hK⟩) ?_
 ·rintro⟨⟨i,⟨m,l⟩,acc⟩,hacc,hi,hlm,hl6,hl8,hgo⟩ f
  simp only at hacc hi hlm hl6 hl8 hgo;obtain⟨q,h_q⟩: ∃q,decide (l.length>0)=q:=⟨_,rfl⟩
  have h_q':=(Cr l.length 0).trans h_q;refine CN ?_
  refine Dd ?_;refine Kz ?_;refine k_k ?_;cases q
  ·refine k_k ?_
   have hK1:K=some acc:=by rw[←hgo,List.eq_nil_of_length_eq_zero (by have:=of_decide_eq_false h_q;omega:l.length=0),mS]
   refine As ?_;refine Bz ?_
   refine JZ ?_;iterate 3 refine k_k ?_
   refine IP ?_;refine k_s (by exact IT (k:=k+n) (b':=b.drop (k+n)) rfl gg rfl rfl underlying9 (by omega) rfl) ?_;refine TH ?_;iterate 3 refine k_k ?_
   refine AG ?_;refine AD (BX results54 (Am rfl rfl underlying71 rfl sizeOf71 rfl) (AF rfl) (AF rfl)) ?_;intro ρ w' hr;first|(subst hK0;exact⟨_,rfl,Dm 0 [],hr.1⟩)|(subst hK1;refine⟨_,rfl,?_,hr.1⟩;have:=YK (t:=(tg:Int)) (b:=[]) (ks:=acc) (n:=i) 900 hr hacc rfl;rw[show AB []=ByteArray.mk #[] from rfl]at this;simpa[SV.c,SV.cs] using this)
  ·refine k_k ?_
   obtain⟨m,rfl⟩: ∃j,m=j+1:=⟨m-1,by have:=of_decide_eq_true h_q;omega⟩
   have hfit:=Se f' l hl8 hl6;obtain⟨q2,h_q2⟩: ∃q,(A7 f' l).2.2=q:=⟨_,rfl⟩
   cases q2<;>
   (
    iterate 6 refine k_k ?_
    refine Px ?_;refine k_s (by first|exact DL (D:=AU (A7 f' l).1) (ys:=[.string (AB (A7 f' l).2.1),.bool true]) [] rfl rfl gg rfl (eo func54) (fun ρ S w' hb _=>by have:=hih _ (d+1) w' (by omega) hl8 hl6;rw[h_q2]at this;exact this)|exact DL (D:=AU (A7 f' l).1) (ys:=[.string (AB (A7 f' l).2.1),.bool false]) [] rfl rfl gg rfl (eo func54) (fun ρ S w' hb _=>by have:=hih _ (d+1) w' (by omega) hl8 hl6;rw[h_q2]at this;exact this)) ?_;iterate 4 refine k_k ?_
    refine En ?_;refine TH ?_;iterate 9 refine k_k ?_
    first
    |(
     refine k_k ?_;have hK0:K=none:=by rw[←hgo,Y6 (of_decide_eq_true h_q),h_q2];rfl
     iterate 2 refine k_k ?_
     refine FW ?_;refine TH ?_;iterate 3 refine k_k ?_
     refine AG ?_;refine AD (BX results54 (Am rfl rfl underlying71 rfl sizeOf71 rfl) (AF rfl) (AF rfl)) ?_;intro ρ w' hr;first|(subst hK0;exact⟨_,rfl,Dm 0 [],hr.1⟩)|(subst hK1;refine⟨_,rfl,?_,hr.1⟩;have:=YK (t:=(tg:Int)) (b:=[]) (ks:=acc) (n:=i) 900 hr hacc rfl;rw[show AB []=ByteArray.mk #[] from rfl]at this;simpa[SV.c,SV.cs] using this)
     )
    |(
     iterate 4 refine k_k ?_
     refine JX ?_;refine Ku ?_;refine JZ ?_;refine k_s (by exact Ty (n:=3) (l:=[.fn (AN 0) (.d 96),.fn (AN 1) (.d 96),.fn (AN 2) (.d 96)]) [96] rfl rfl gg rfl (fun ρ S w' hR=>DC _) rfl rfl qx) ?_;refine k_s (by exact af (id:=900) (ys:=106) (n:=i) (k:=1) (k':=1) (size:=3) (Na (acc++[(A7 f' l).1])) [900,106,96] rfl rfl gg rfl rfl rfl rfl rfl (Nat.le_refl _) underlying69 o8 (by decide) (by simp only[maxLen];omega) (by omega) (by simp) (by simp) (fun ρ S w' hR=>by obtain⟨c,h1,h2⟩:=C9 (id:=96) hR (by simp) rfl;exact(fn3 h1 (Cu h2)).2▸Ib h2) (fun ρ S w' xs hb hR hxs=>by obtain⟨c,h1,h2⟩:=C9 (id:=96) hR (by simp) rfl;rw[(fn3 h1 (Cu h2)).2];exact cq (Un (fun k hk=>⟨96,by simp,rfl,hk⟩) h2) (Nu (fun k hk=>⟨900,by simp,rfl,hk⟩) hxs))) ?_;refine JX ?_;refine k_s (by exact Bh (vl:=[.d 107]) [7,107] rfl gg rfl rfl rfl sizeOf69 rfl (fun ρ S w' _ hR=>by have hh:=Cf (id:=107) hR (by simp) rfl;exact⟨hh.1,by simp[SV.cs,SV.c,hh.2]⟩) rfl (by simp)) ?_;iterate 5 refine k_k ?_
     refine⟨⟨(i+1,(m,(A7 f' l).2.1),acc++[(A7 f' l).1]),by simp[hacc],by show i+1+m≤n;omega,by show(A7 f' l).2.1.length≤m;have:=(hfit.2.2.1 h_q2).2;omega,by show(A7 f' l).2.1.length≤1048576;have:=(hfit.2.2.1 h_q2).2;omega,fun y hy=>hl8 y (hfit.2.2.2 y hy),?_⟩,by show m<m+1;omega,?_⟩
     ·show Cx (A7 f') m (A7 f' l).2.1 (acc++[(A7 f' l).1])=K
      rw[Y6 (of_decide_eq_true h_q),h_q2]at hgo;exact hgo
     exact(Ar (fun i=>i==0||i==1||i==4||i==7||i==8||i==9||i==12) [106,13,96]).trans2 (fun f=>Dk 107 900 (by decide) rfl)
     )
   )
 ·refine(Ar (fun i=>i==0||i==1||i==4||i==7||i==8||i==9||i==12) []).trans2 (fun f=> ?_)
  refine(N1 900 3 71 (Na []) (fun w=>by trivial) (m':=[(7,.cells [.v (.int .i64 (tg:Nat)),.v (.string (ByteArray.mk #[])),.d 900] 71),(4,.cells [.v (.int .i64 0),.v (.string (ByteArray.mk #[])),.v (.slice none 0 0)] 71)]) rfl rfl (fun ρ _=>rfl) (fun ρ hv=> ?_));simp[JG,BQ,Blk.sim,SV.cs,SV.c,hv,Bg]
theorem km(_h8: ∀x∈b,x<256)(hbl:b.length≤1048576)(_hd9:d≤9)(hl:b.length<2):Calls prog 54 #[.string (AB b),.int .i64 (d:Nat)] w fun e w'=> ∃v',e= .returned (.tuple #[v',.string (AB ([])),.bool false])∧Ae w w' v' (AU (noT))∧Bw w w':=by
 go_enter func54,ntmps54
 refine IH ?_;refine K8 ?_;refine BP ?_;refine Kk ?_
 refine FW ?_;refine Kd ?_
 refine AG ?_;refine AD (BX results54 (Am rfl rfl underlying71 rfl sizeOf71 rfl) (AF rfl) (AF rfl)) ?_;intro ρ w' hr;refine⟨_,rfl,?_,hr.1⟩;exact Dm 0 []
theorem kz(_h8: ∀x∈b,x<256)(hbl:b.length≤1048576)(hd9:d≤9)(hl:2≤b.length)(hd:8<d):Calls prog 54 #[.string (AB b),.int .i64 (d:Nat)] w fun e w'=> ∃v',e= .returned (.tuple #[v',.string (AB ([])),.bool false])∧Ae w w' v' (AU (noT))∧Bw w w':=by
 go_enter func54,ntmps54
 refine IH ?_;refine HP ?_;refine BP ?_;refine Kq ?_;iterate 5 refine k_k ?_
 refine FW ?_;refine Kd ?_
 refine AG ?_;refine AD (BX results54 (Am rfl rfl underlying71 rfl sizeOf71 rfl) (AF rfl) (AF rfl)) ?_;intro ρ w' hr;refine⟨_,rfl,?_,hr.1⟩;exact Dm 0 []
theorem ku{c:Nat}{R:Ending→World→Prop}(ht:t<256)(hc:c<256)(hbl:r.length≤1048576)(hd:d≤8)(h:c<128)(htail: ∀f:Nat→Value,VOk prog w ⟨[.v (.string (AB (t::c::r))),.v (.int .i64 (d:Nat)),.v (f 2),.v (f 3),.p 4 0,.v (f 5),.v (f 6),.p 7 0,.v (.int .i64 (c:Nat)),.v (.int .i64 (2:Nat)),.v (f 10),.v (f 11),.v (f 12),.v (f 13),.v (f 14),.v (f 15),.v (f 16),.v (f 17),.v (f 18),.v (f 19),.v (f 20),.v (f 21),.v (f 22),.v (f 23),.v (f 24),.v (f 25),.v (f 26),.v (f 27),.v (f 28),.v (f 29),.v (f 30),.v (f 31),.v (f 32),.v (f 33),.v (f 34),.v (f 35),.v (f 36),.v (f 37),.v (f 38),.v (f 39),.v (f 40),.v (f 41),.v (f 42),.v (f 43),.v (f 44),.v (f 45),.v (f 46),.v (f 47),.v (f 48),.v (f 49),.v (f 50),.v (f 51),.v (f 52),.v (f 53),.v (f 54),.v (f 55),.v (f 56),.v (f 57),.v (f 58),.v (f 59),.v (f 60),.v (f 61),.v (f 62),.v (f 63),.v (f 64),.v (f 65),.v (f 66),.v (f 67),.v (f 68),.v (f 69),.v (f 70),.v (f 71),.v (f 72),.v (f 73),.v (f 74),.v (f 75),.v (f 76),.v (f 77),.v (f 78),.v (f 79),.v (f 80),.v (f 81),.v (f 82),.v (f 83),.v (f 84),.v (f 85),.v (f 86),.v (f 87),.v (f 88),.v (f 89),.v (f 90),.v (f 91),.v (f 92),.v (f 93),.v (f 94),.v (f 95),.v (f 96),.v (f 97),.v (f 98),.v (f 99),.v (f 100),.v (f 101),.v (f 102),.v (f 103),.v (f 104),.v (f 105),.v (f 106),.v (f 107),.v (f 108),.v (f 109),.v (f 110),.v (f 111),.v (f 112),.v (f 113),.v (f 114),.v (f 115)],AJ [(7,.cells [.v (.int .i64 (t:Nat)),.v (.string (ByteArray.mk #[])),.v (.slice none 0 0)] 71),(4,.cells [.v (.int .i64 0),.v (.string (ByteArray.mk #[])),.v (.slice none 0 0)] 71)]⟩ (Cm 5 (Ct f54)) (QB prog f54 w R)):Calls prog 54 #[.string (AB (t::c::r)),.int .i64 (d:Nat)] w R:=by
 go_enter func54,ntmps54
 refine IH ?_;refine FU ?_;refine BP ?_;refine ES ?_;iterate 7 refine k_k ?_
 refine K6 ?_;refine HS ?_;refine Kr ?_;refine En ?_;refine Kc ?_
 refine K5 ?_;refine Kb ?_
 refine k_s (by exact B4 (p:=false) rfl gg rfl rfl (decide_eq_false (by omega))) ?_;iterate 3 refine k_k ?_
 exact Jw (fun i=>i==0||i==1||i==4||i==7||i==8||i==9) [] htail
theorem kt{c:Nat}(ht:t<256)(hc:c<256)(hbl:r.length≤1048576)(hd:d≤8)(h:c=128):Calls prog 54 #[.string (AB (t::c::r)),.int .i64 (d:Nat)] w fun e w'=> ∃v',e= .returned (.tuple #[v',.string (AB []),.bool false])∧Ae w w' v' (AU (noT))∧Bw w w':=by
 go_enter func54,ntmps54
 refine IH ?_;refine FU ?_;refine BP ?_;refine ES ?_;iterate 7 refine k_k ?_
 refine K6 ?_;refine HS ?_;refine Kr ?_;refine En ?_;refine Kc ?_
 refine K5 ?_;refine Kb ?_
 refine k_s (by exact B4 (p:=true) rfl gg rfl rfl (decide_eq_true (by omega))) ?_;iterate 5 refine k_k ?_
 refine JU ?_;iterate 6 refine k_k ?_
 refine K8 ?_;refine BP ?_;refine k_3 ?_;iterate 2 refine k_k ?_
 refine k_0 ?_;refine k_3 ?_;refine k_0 ?_;iterate 2 refine k_3 ?_
 iterate 5 refine k_k ?_
 refine FW ?_;refine Kd ?_
 refine AG ?_;refine AD (BX results54 (Am rfl rfl underlying71 rfl sizeOf71 rfl) (AF rfl) (AF rfl)) ?_;intro ρ w' hr;refine⟨_,rfl,?_,hr.1⟩;exact Dm 0 []
theorem kr{c:Nat}(ht:t<256)(hc:c<256)(hbl:r.length≤1048576)(hd:d≤8)(h:130<c):Calls prog 54 #[.string (AB (t::c::r)),.int .i64 (d:Nat)] w fun e w'=> ∃v',e= .returned (.tuple #[v',.string (AB []),.bool false])∧Ae w w' v' (AU (noT))∧Bw w w':=by
 go_enter func54,ntmps54
 refine IH ?_;refine FU ?_;refine BP ?_;refine ES ?_;iterate 7 refine k_k ?_
 refine K6 ?_;refine HS ?_;refine Kr ?_;refine En ?_;refine Kc ?_
 refine K5 ?_;refine Kb ?_
 refine k_s (by exact B4 (p:=true) rfl gg rfl rfl (decide_eq_true (by omega))) ?_;iterate 5 refine k_k ?_
 refine JU ?_;iterate 6 refine k_k ?_
 refine HP ?_;refine BP ?_;refine Kq ?_;iterate 2 refine k_k ?_
 refine k_0 ?_;refine k_3 ?_;refine k_0 ?_;iterate 2 refine k_3 ?_
 iterate 5 refine k_k ?_
 refine FW ?_;refine Kd ?_
 refine AG ?_;refine AD (BX results54 (Am rfl rfl underlying71 rfl sizeOf71 rfl) (AF rfl) (AF rfl)) ?_;intro ρ w' hr;refine⟨_,rfl,?_,hr.1⟩;exact Dm 0 []
theorem Sd{c:Nat}(ht:t<256)(hc:c<256)(hbl:r.length≤1048576)(hd:d≤8)(h:128<c)(h2:c≤130)(hl:r.length+128<c):Calls prog 54 #[.string (AB (t::c::r)),.int .i64 (d:Nat)] w fun e w'=> ∃v',e= .returned (.tuple #[v',.string (AB []),.bool false])∧Ae w w' v' (AU (noT))∧Bw w w':=by
 go_enter func54,ntmps54
 refine IH ?_;refine FU ?_;refine BP ?_;refine ES ?_;iterate 7 refine k_k ?_
 refine K6 ?_;refine HS ?_;refine Kr ?_;refine En ?_;refine Kc ?_
 refine K5 ?_;refine Kb ?_
 refine k_s (by exact B4 (p:=true) rfl gg rfl rfl (decide_eq_true (by omega))) ?_;iterate 5 refine k_k ?_
 refine JU ?_;iterate 6 refine k_k ?_
 refine HP ?_;refine BP ?_;refine ES ?_;iterate 2 refine k_k ?_
 refine k_0 ?_;refine TJ ?_;refine k_0 ?_;refine k_s (by first|exact Ev.skip (fun _=>rfl)|exact BE (c:=(2+((c:Int)-128))) rfl (fun _=>rfl) rfl rfl (by rw[Ah (by omega) (by omega)])) ?_;refine k_s (by first|exact Ev.skip (fun _=>rfl)|exact BM (p:=true) rfl (fun _=>rfl) rfl rfl (decide_eq_true (by simp only[List.length_cons];omega))) ?_;iterate 5 refine k_k ?_
 refine FW ?_;refine Kd ?_
 refine AG ?_;refine AD (BX results54 (Am rfl rfl underlying71 rfl sizeOf71 rfl) (AF rfl) (AF rfl)) ?_;intro ρ w' hr;refine⟨_,rfl,?_,hr.1⟩;exact Dm 0 []
theorem kx{R:Ending→World→Prop}(ht:t<256)(hx:x<256)(hbl:r.length≤1048576)(hd:d≤8)(htail: ∀f:Nat→Value,VOk prog w ⟨[.v (.string (AB (t::129::x::r))),.v (.int .i64 (d:Nat)),.v (f 2),.v (f 3),.p 4 0,.v (f 5),.v (f 6),.p 7 0,.v (.int .i64 (x:Nat)),.v (.int .i64 (3:Nat)),.v (f 10),.v (f 11),.v (f 12),.v (f 13),.v (f 14),.v (f 15),.v (f 16),.v (f 17),.v (f 18),.v (f 19),.v (f 20),.v (f 21),.v (f 22),.v (f 23),.v (f 24),.v (f 25),.v (f 26),.v (f 27),.v (f 28),.v (f 29),.v (f 30),.v (f 31),.v (f 32),.v (f 33),.v (f 34),.v (f 35),.v (f 36),.v (f 37),.v (f 38),.v (f 39),.v (f 40),.v (f 41),.v (f 42),.v (f 43),.v (f 44),.v (f 45),.v (f 46),.v (f 47),.v (f 48),.v (f 49),.v (f 50),.v (f 51),.v (f 52),.v (f 53),.v (f 54),.v (f 55),.v (f 56),.v (f 57),.v (f 58),.v (f 59),.v (f 60),.v (f 61),.v (f 62),.v (f 63),.v (f 64),.v (f 65),.v (f 66),.v (f 67),.v (f 68),.v (f 69),.v (f 70),.v (f 71),.v (f 72),.v (f 73),.v (f 74),.v (f 75),.v (f 76),.v (f 77),.v (f 78),.v (f 79),.v (f 80),.v (f 81),.v (f 82),.v (f 83),.v (f 84),.v (f 85),.v (f 86),.v (f 87),.v (f 88),.v (f 89),.v (f 90),.v (f 91),.v (f 92),.v (f 93),.v (f 94),.v (f 95),.v (f 96),.v (f 97),.v (f 98),.v (f 99),.v (f 100),.v (f 101),.v (f 102),.v (f 103),.v (f 104),.v (f 105),.v (f 106),.v (f 107),.v (f 108),.v (f 109),.v (f 110),.v (f 111),.v (f 112),.v (f 113),.v (f 114),.v (f 115)],AJ [(7,.cells [.v (.int .i64 (t:Nat)),.v (.string (ByteArray.mk #[])),.v (.slice none 0 0)] 71),(4,.cells [.v (.int .i64 0),.v (.string (ByteArray.mk #[])),.v (.slice none 0 0)] 71)]⟩ (Cm 5 (Ct f54)) (QB prog f54 w R)):Calls prog 54 #[.string (AB (t::129::x::r)),.int .i64 (d:Nat)] w R:=by
 have hc:129<256:=by decide
 go_enter func54,ntmps54
 refine IH ?_;refine FU ?_;refine BP ?_;refine ES ?_;iterate 7 refine k_k ?_
 refine K6 ?_;refine HS ?_;refine Kr ?_;refine En ?_;refine Kc ?_
 refine K5 ?_;refine Kb ?_
 refine k_s (by exact B4 (p:=true) rfl gg rfl rfl (by decide)) ?_;iterate 5 refine k_k ?_
 refine k_s (by exact Bu (c:=1) rfl gg rfl rfl (by decide)) ?_;iterate 6 refine k_k ?_
 refine Gv ?_;refine BP ?_;refine Ko ?_;iterate 2 refine k_k ?_
 refine k_0 ?_;refine TJ ?_;refine k_0 ?_;refine k_s (by first|exact Ev.skip (fun _=>rfl)|exact BE (c:=((3:Nat):Int)) rfl (fun _=>rfl) rfl rfl (by rw[Ah (by omega) (by omega)];omega)) ?_;refine PW ?_;iterate 14 refine k_k ?_
 refine Br 2 ?_;refine IG ?_
 refine K0 ?_;iterate 7 refine k_k ?_
 refine Pp ?_;iterate 2 refine k_k ?_
 refine Pu ?_;refine k_s (by exact CF (k:=2) rfl gg rfl rfl underlying9 (rfl) (hx)) ?_;refine Pf ?_;refine k_s (by exact BE (c:=((x:Nat):Int)) rfl gg rfl rfl (by rw[Ah (by omega) (by omega)];omega)) ?_;iterate 4 refine k_k ?_
 refine Pv ?_;iterate 7 refine k_k ?_
 refine Gv ?_;iterate 2 refine k_k ?_
 refine As ?_;refine Bz ?_
 refine Pw ?_;iterate 2 refine k_k ?_
 exact Jw (fun i=>i==0||i==1||i==4||i==7||i==8||i==9) [] htail
theorem kw{y:Nat}{R:Ending→World→Prop}(ht:t<256)(hx:x<256)(hy:y<256)(hbl:r.length≤1048576)(hd:d≤8)(htail: ∀f:Nat→Value,VOk prog w ⟨[.v (.string (AB (t::130::x::y::r))),.v (.int .i64 (d:Nat)),.v (f 2),.v (f 3),.p 4 0,.v (f 5),.v (f 6),.p 7 0,.v (.int .i64 (x*256+y:Nat)),.v (.int .i64 (4:Nat)),.v (f 10),.v (f 11),.v (f 12),.v (f 13),.v (f 14),.v (f 15),.v (f 16),.v (f 17),.v (f 18),.v (f 19),.v (f 20),.v (f 21),.v (f 22),.v (f 23),.v (f 24),.v (f 25),.v (f 26),.v (f 27),.v (f 28),.v (f 29),.v (f 30),.v (f 31),.v (f 32),.v (f 33),.v (f 34),.v (f 35),.v (f 36),.v (f 37),.v (f 38),.v (f 39),.v (f 40),.v (f 41),.v (f 42),.v (f 43),.v (f 44),.v (f 45),.v (f 46),.v (f 47),.v (f 48),.v (f 49),.v (f 50),.v (f 51),.v (f 52),.v (f 53),.v (f 54),.v (f 55),.v (f 56),.v (f 57),.v (f 58),.v (f 59),.v (f 60),.v (f 61),.v (f 62),.v (f 63),.v (f 64),.v (f 65),.v (f 66),.v (f 67),.v (f 68),.v (f 69),.v (f 70),.v (f 71),.v (f 72),.v (f 73),.v (f 74),.v (f 75),.v (f 76),.v (f 77),.v (f 78),.v (f 79),.v (f 80),.v (f 81),.v (f 82),.v (f 83),.v (f 84),.v (f 85),.v (f 86),.v (f 87),.v (f 88),.v (f 89),.v (f 90),.v (f 91),.v (f 92),.v (f 93),.v (f 94),.v (f 95),.v (f 96),.v (f 97),.v (f 98),.v (f 99),.v (f 100),.v (f 101),.v (f 102),.v (f 103),.v (f 104),.v (f 105),.v (f 106),.v (f 107),.v (f 108),.v (f 109),.v (f 110),.v (f 111),.v (f 112),.v (f 113),.v (f 114),.v (f 115)],AJ [(7,.cells [.v (.int .i64 (t:Nat)),.v (.string (ByteArray.mk #[])),.v (.slice none 0 0)] 71),(4,.cells [.v (.int .i64 0),.v (.string (ByteArray.mk #[])),.v (.slice none 0 0)] 71)]⟩ (Cm 5 (Ct f54)) (QB prog f54 w R)):Calls prog 54 #[.string (AB (t::130::x::y::r)),.int .i64 (d:Nat)] w R:=by
 have hc:130<256:=by decide
 go_enter func54,ntmps54
 refine IH ?_;refine FU ?_;refine BP ?_;refine ES ?_;iterate 7 refine k_k ?_
 refine K6 ?_;refine HS ?_;refine Kr ?_;refine En ?_;refine Kc ?_
 refine K5 ?_;refine Kb ?_
 refine k_s (by exact B4 (p:=true) rfl gg rfl rfl (by decide)) ?_;iterate 5 refine k_k ?_
 refine k_s (by exact Bu (c:=2) rfl gg rfl rfl (by decide)) ?_;iterate 6 refine k_k ?_
 refine Gv ?_;refine BP ?_;refine Ko ?_;iterate 2 refine k_k ?_
 refine k_0 ?_;refine TJ ?_;refine k_0 ?_;refine k_s (by first|exact Ev.skip (fun _=>rfl)|exact BE (c:=((4:Nat):Int)) rfl (fun _=>rfl) rfl rfl (by rw[Ah (by omega) (by omega)];omega)) ?_;refine PW ?_;iterate 14 refine k_k ?_
 refine Br 3 ?_;refine IG ?_
 refine K0 ?_;iterate 7 refine k_k ?_
 refine Pp ?_;iterate 2 refine k_k ?_
 refine Pu ?_;refine k_s (by exact CF (k:=2) rfl gg rfl rfl underlying9 (rfl) (hx)) ?_;refine Pf ?_;refine k_s (by exact BE (c:=((x:Nat):Int)) rfl gg rfl rfl (by rw[Ah (by omega) (by omega)];omega)) ?_;iterate 4 refine k_k ?_
 refine Pv ?_;iterate 7 refine k_k ?_
 refine K0 ?_;iterate 7 refine k_k ?_
 refine k_s (by exact AK rfl gg rfl rfl (fun w=>Rp (v:=x) (u:=x*256) (by omega) rfl _ _ w)) ?_;iterate 2 refine k_k ?_
 refine Pw ?_;refine k_s (by exact CF (k:=3) rfl gg rfl rfl underlying9 (rfl) (hy)) ?_;refine k_s (by exact B1 rfl gg rfl (fun w=>Nc hy w)) ?_;refine k_s (by exact BE (c:=((x*256+y:Nat):Int)) rfl gg rfl rfl (by rw[Ah (by omega) (by omega)];omega)) ?_;iterate 4 refine k_k ?_
 refine Pu ?_;iterate 7 refine k_k ?_
 refine Gv ?_;iterate 2 refine k_k ?_
 refine As ?_;refine Bz ?_
 refine TM ?_;iterate 2 refine k_k ?_
 exact Jw (fun i=>i==0||i==1||i==4||i==7||i==8||i==9) [] htail
theorem X6{R:Ending→World→Prop}(h8: ∀x∈b,x<256)(hbl:b.length≤1048576)(hd9:d≤9)
 (hno:(d>8∨(Bf b).2.2=0)→ ∀e w',(∃v',e= .returned (.tuple #[v',.string (AB []),.bool false])∧Ae w w' v' (AU (noT))∧Bw w w')→R e w')
 (hyes:d≤8→(Bf b).2.2≠0→ ∀tg n k,Bf b=(tg,n,k)→(n<65536∧k≤4∧tg<256∧d≤8∧k≤b.length)→ ∀f:Nat→Value,VOk prog w ⟨[.v (.string (AB b)),.v (.int .i64 (d:Nat)),.v (f 2),.v (f 3),.p 4 0,.v (f 5),.v (f 6),.p 7 0,.v (.int .i64 (n:Nat)),.v (.int .i64 (k:Nat)),.v (f 10),.v (f 11),.v (f 12),.v (f 13),.v (f 14),.v (f 15),.v (f 16),.v (f 17),.v (f 18),.v (f 19),.v (f 20),.v (f 21),.v (f 22),.v (f 23),.v (f 24),.v (f 25),.v (f 26),.v (f 27),.v (f 28),.v (f 29),.v (f 30),.v (f 31),.v (f 32),.v (f 33),.v (f 34),.v (f 35),.v (f 36),.v (f 37),.v (f 38),.v (f 39),.v (f 40),.v (f 41),.v (f 42),.v (f 43),.v (f 44),.v (f 45),.v (f 46),.v (f 47),.v (f 48),.v (f 49),.v (f 50),.v (f 51),.v (f 52),.v (f 53),.v (f 54),.v (f 55),.v (f 56),.v (f 57),.v (f 58),.v (f 59),.v (f 60),.v (f 61),.v (f 62),.v (f 63),.v (f 64),.v (f 65),.v (f 66),.v (f 67),.v (f 68),.v (f 69),.v (f 70),.v (f 71),.v (f 72),.v (f 73),.v (f 74),.v (f 75),.v (f 76),.v (f 77),.v (f 78),.v (f 79),.v (f 80),.v (f 81),.v (f 82),.v (f 83),.v (f 84),.v (f 85),.v (f 86),.v (f 87),.v (f 88),.v (f 89),.v (f 90),.v (f 91),.v (f 92),.v (f 93),.v (f 94),.v (f 95),.v (f 96),.v (f 97),.v (f 98),.v (f 99),.v (f 100),.v (f 101),.v (f 102),.v (f 103),.v (f 104),.v (f 105),.v (f 106),.v (f 107),.v (f 108),.v (f 109),.v (f 110),.v (f 111),.v (f 112),.v (f 113),.v (f 114),.v (f 115)],AJ [(7,.cells [.v (.int .i64 (tg:Nat)),.v (.string (ByteArray.mk #[])),.v (.slice none 0 0)] 71),(4,.cells [.v (.int .i64 0),.v (.string (ByteArray.mk #[])),.v (.slice none 0 0)] 71)]⟩ (Cm 5 (Ct f54)) (QB prog f54 w R)):Calls prog 54 #[.string (AB b),.int .i64 (d:Nat)] w R:=by
 by_cases hl:b.length<2
 ·have e:(Bf b).2.2=0:=by
   match b,hl with
   | [],_=>rfl
   | [_],_=>rfl
   |_::_::r,hl=>simp only[List.length_cons]at hl;omega
  exact(km w h8 hbl hd9 hl).mono (hno (.inr e))
 by_cases hd:8<d
 ·exact(kz w h8 hbl hd9 (by omega) hd).mono (hno (.inl hd))
 obtain⟨t,c,r,rfl⟩: ∃t c r,b=t::c::r:=by
  match b,hl with
  |t::c::r,_=>exact⟨t,c,r,rfl⟩
  | [],hl=>simp at hl
  | [_],hl=>simp at hl
 have ht:=h8 t (by simp);have hc:=h8 c (by simp);simp only[List.length_cons]at hbl;have hrl:r.length≤1048576:=by omega
 by_cases h1:c<128
 ·have e:Bf (t::c::r)=(t,c,2):=by simp only[Bf,decide_eq_true h1,cond_true]
  exact ku w ht hc hrl (by omega) h1 (hyes (by omega) (by rw[e];simp) _ _ _ e ⟨by omega,by omega,ht,by omega,by simp⟩)
 ·have e:Bf (t::c::r)=bif decide (c=129) && decide (1≤r.length)then(t,r.getD 0 0,3)else bif decide (c=130) && decide (2≤r.length)then(t,r.getD 0 0*256+r.getD 1 0,4)else(0,0,0):=by
   simp only[Bf,decide_eq_false h1,cond_false]
  by_cases h2:c=129
  ·subst h2
   match r,h8,hrl,e,hno,hyes with
   | [],_,hrl,e,hno,_=>exact(Sd w ht hc hrl (by omega) (by decide) (by decide) (by simp)).mono (hno (.inr (by rw[e];rfl)))
   |x::r,h8,hrl,e,_,hyes=>
    have hx:=h8 x (by simp);have e':Bf (t::129::x::r)=(t,x,3):=by rw[e,decide_eq_true (p:=1≤(x::r).length) (by simp)];rfl
    simp only[List.length_cons]at hrl;exact kx w ht hx (by omega) (by omega) (hyes (by omega) (by rw[e'];simp) _ _ _ e' ⟨by omega,by omega,ht,by omega,by simp⟩)
  ·by_cases h3:c=130
   ·subst h3
    match r,h8,hrl,e,hno,hyes with
    | [],_,hrl,e,hno,_=>exact(Sd w ht hc hrl (by omega) (by decide) (by decide) (by simp)).mono (hno (.inr (by rw[e];rfl)))
    | [x],_,hrl,e,hno,_=>exact(Sd w ht hc hrl (by omega) (by decide) (by decide) (by simp)).mono (hno (.inr (by rw[e];rfl)))
    |x::y::r,h8,hrl,e,_,hyes=>
     have hx:=h8 x (by simp);have hy:=h8 y (by simp);have e':Bf (t::130::x::y::r)=(t,x*256+y,4):=by rw[e,decide_eq_true (p:=2≤(x::y::r).length) (by simp)];rfl
     simp only[List.length_cons]at hrl;exact kw w ht hx hy (by omega) (by omega) (hyes (by omega) (by rw[e'];simp) _ _ _ e' ⟨by omega,by omega,ht,by omega,by simp⟩)
   ·have e0:(Bf (t::c::r)).2.2=0:=by rw[e,decide_eq_false h2,decide_eq_false h3];rfl
    by_cases h4:c=128
    ·exact(kt w ht hc hrl (by omega) h4).mono (hno (.inr e0))
    ·exact(kr w ht hc hrl (by omega) (by omega)).mono (hno (.inr e0))
theorem Sc: ∀f,ct f
 |0=>fun b d w hd h8 hbl=>by
  refine X6 w h8 hbl (by omega) (fun _ e w' h=> ?_) (fun h=>by omega);simp only[A7];exact h
 |f+1=>fun b d w hd h8 hbl=>by
  refine X6 w h8 hbl (by omega) (fun h0 e w' h=> ?_) (fun hd8 hk0 tg n k hh hb6 g=> ?_)
  ·have h0':(Bf b).2.2=0:=h0.resolve_left (by omega)
   simp only[A7,decide_eq_true h0',Bool.true_or,cond_true];exact h
  ·have hk:k≠0:=by rw[hh]at hk0;exact hk0
   simp only[A7,hh,decide_eq_false hk,Bool.false_or];by_cases hn:n+k>b.length
   ·rw[decide_eq_true hn];exact kn w h8 hbl hb6 hn g
   ·rw[decide_eq_false hn]
    simp only[cond_false];cases hm:CB tg with
    |false=>exact kq w h8 hbl hb6 (by omega) hm g
    |true=>
     obtain⟨K,hK⟩: ∃K,Cx (A7 f) n ((b.drop k).take n) []=K:=⟨_,rfl⟩
     have:=ko w h8 hbl hb6 (by omega) hm (Sc f) (by omega) hK g;simp only[Bool.not_true,cond_false];rw[hK];cases K<;>exact this
end Go.Proofs.YtafbhakmkbehiaaGreatDoor
