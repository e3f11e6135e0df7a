import Derived.Test.YtafbhakmkbehiaaGreatDoorW25
import Derived.Test.YtafbhakmkbehiaaGreatDoorW27
open Go.Proofs.Tryz
set_option maxHeartbeats 4000000
set_option maxRecDepth 100000
namespace Go.Proofs.YtafbhakmkbehiaaGreatDoor
open Go.RowKit Go.Vx
variable(w:World){d:Crt}{n now p:Int}{B X a b r rd:List Nat}{k r1 t1 y:Nat}{g:Nat->Nat}{S:Nat->Nat->Prop}{ρ:Nat->Nm}{G Ga Gb Gx:Nat->Prop}{v:Nat->Value}{ty:TypeId}{cv rv va vb vr vx:Value}
open TollMont
open TollEc (F base)
theorem ua{q:World}{m:Mem}{f:Nat}{c:Crt}(l:m f=some (.dat (G5 c))):Rdg q m [f] (.fn (AN 5) (.d f)) c.ky.length 1 (c.ky.map b8):=λρ S w _ j=>by
 obtain⟨o,h,i⟩:=Nb j (by simp) l;have e:SV.c ρ (.fn (AN 5) (.d f))=o:=by simp[SV.c,h,CVV,AN,Value.cells]
 rw[e];exact⟨_,i⟩
theorem Mq{w:World}{c:Nat}{m:Mem}{v:Value}{l:List Nat}{n:Nat}(i:Nat)(s:Laid w)(q:B6 w)(o:CQ w)(e:7<w.heap.size)(A:AO w v b.length 1 (b.map b8) G)(j:∀x∈b,x<256)(f:b.length<=1048576)(C:∀x∈l,x<256)(z:n=l.length)(t:RelOn c ρ S w (restr rd m))(h:i∈rd)(u:m i=some (.row n 1 ty (.exact (l.map b8)))):
 CBy 20 (SV.cs ρ [.v v,.d i]).toArray w (.int .i64 (Ob b l)):=by
 subst z;exact sI w s q o e A (EH t h u) j C f
theorem Kg(h:rdC b=some (d,r1,t1)):nxE a b=decide (Ob a d.ky=0):=by unfold nxE;rw[h]
theorem eM(h:rdC b=none):nxE a b=false:=by unfold nxE;rw[h]
theorem vj{F:Nat->Prop}(hL:Laid w)(hK:B6 w)(hH:CQ w)(hb1:7<w.heap.size)(_A:Ci w)(hc:AO w cv 2 1 [va,vb] F)(ha:AO w va a.length 1 (a.map b8) Ga)(q:AO w vb b.length 1 (b.map b8) Gb)(a8:∀x∈a,x<256)(al:a.length<=1048576)(b8':∀x∈b,x<256)(bl:b.length<=1048576)(_s:AO w rv 1 1 [vr] G)(_u:B9 w G [r] [vr])(_C:∀x∈r,x<256)(_D:r.length<=1048576)(j:∀f:Nat->Value,VOk prog w ⟨(.v cv::.v rv::.v (.int .i64 5)::.v (.int .i64 4)::.v (f 4)::.v (f 5)::.v (f 6)::.v (f 7)::.v (.bool false)::.d 64::.v (.slice none 0 0)::fv f 147 11 []),AJ [(64,.row 2 1 4 (.exact [.bool (nxE a b),.bool false]))]⟩ (Cm 3 (Ct f19)) (QB prog f19 w (λe m=>e=.returned (.bool true)/\Bw w m))):Calls prog 19 #[cv,rv,.int .i64 5,.int .i64 4] w (λe m=>e=.returned (.bool true)/\Bw w m):=by
 try simp only[fv,zs,Nat.reduceAdd]
 go_enter func19,ntmps19
 refine A4 ?_;iterate 15 refine AA ?_
 refine Br 3 ?_;change VOk _ _ _ _ _;iterate 5 refine AA ?_
 refine D2 ?_;refine EP ?_;iterate 13 refine AA ?_
 refine C4 ?_;refine AA ?_;refine D2 ?_;refine EP ?_;iterate 3 refine aT ?_
 rcases hrb:rdC b with _|⟨d,r1,t1⟩
 .have o:=eM (a:=a) hrb
  rw[o]at j;iterate 3 refine AA ?_
  refine C4 ?_;refine AX (by exact Bc (k:=1) rfl gg rfl rfl yX y7 (AW hc) (by decide) (by decide)) ?_;refine AX (by exact Cb rfl gg rfl x7 rfl (AW hc) rfl) ?_;refine AX (by exact Cc (bs:=b) rfl gg rfl x7 yL yF (AW q)) ?_;refine mB ?_;iterate 12 refine AA ?_
  refine Gt ?_;iterate 3 refine AA ?_
  refine ol ?_;refine Mn ?_;iterate 2 refine AA ?_
  refine po ?_;refine kg ?_;refine AX (by first|exact Ev.skip (λ_=>rfl)|exact Ag (p:=nxE a b) rfl (λ_=>rfl) rfl rfl (Kg hrb).symm) ?_;iterate 6 refine AA ?_
  refine Ml ?_;refine Ky ?_;iterate 4 refine AA ?_
  refine C4 ?_;iterate 2 refine AA ?_
  first|(refine VOk.weak (B:=λf=>⟨(.v cv::.v rv::.v (.int .i64 5)::.v (.int .i64 4)::.v (f 4)::.v (f 5)::.v (f 6)::.v (f 7)::.v (.bool false)::.d 964::.v (.slice none 0 0)::.v (.int .i64 1)::fv f 146 12 []),AJ [(964,.row 1 1 4 (.exact [.bool (nxE a b)]))]⟩) ((Ar (λi=>i==0||i==1||i==2||i==3||i==8||i==9||i==10||i==11) [13,14,57,63]).trans2 (λf=>Dk 64 964 (by decide) rfl)) λf=> ?_)|(refine VOk.weak (B:=λf=>⟨(.v cv::.v rv::.v (.int .i64 5)::.v (.int .i64 4)::.v (f 4)::.v (f 5)::.v (f 6)::.v (f 7)::.v (.bool false)::.d 964::.v (.slice none 0 0)::.v (.int .i64 1)::fv f 146 12 []),AJ [(964,.row 1 1 4 (.exact [.bool false]))]⟩) ((Ar (λi=>i==0||i==1||i==2||i==3||i==8||i==9||i==10||i==11) [13,14,57,63]).trans2 (λf=>Dk 64 964 (by decide) rfl)) λf=> ?_)
  simp only[fv,Nat.reduceAdd];iterate 5 refine AA ?_
  refine D2 ?_;refine EP ?_;iterate 13 refine AA ?_
  refine II ?_;refine AA ?_;refine D2 ?_;refine DY ?_;iterate 6 refine AA ?_
  refine Ml ?_;refine AX (by exact Di rfl rfl gg rfl rfl rfl (BI rfl) underlying99 el4 (by decide) rfl rfl (by simp only[maxLen];omega) (by omega) rfl) ?_;iterate 4 refine AA ?_
  refine II ?_;iterate 7 refine AA ?_
  refine D2 ?_;refine DY ?_;iterate 2 refine aT ?_
  refine As ?_;change VOk _ _ _ _ _;refine Ea (λi=>i==0||i==1||i==2||i==3||i==8||i==9||i==10) [963,964,63,57,13,14] (λf=>by simp[B0];exact rfl) (by simp[BQ];exact rfl) λf=> ?_
  exact j f
 .have hs1:=iG b8' bl hrb
  iterate 3 refine AA ?_
  refine C4 ?_;refine AX (by exact Bc (k:=1) rfl gg rfl rfl yX y7 (AW hc) (by decide) (by decide)) ?_;refine AX (by exact Cb rfl gg rfl x7 rfl (AW hc) rfl) ?_;refine AX (by exact Cc (bs:=b) rfl gg rfl x7 yL yF (AW q)) ?_;refine AX (by exact Ad (v:=.tuple #[.agg #[.int .i64 d.se,.string (AB d.is),.string (AB d.su),.int .i64 d.fr,.int .i64 d.to,.string (AB d.ky),.bool d.ca,.int .i64 d.pa,.int .i64 d.us],PT r1 t1,.int .i64 0]) rfl gg rfl (eo func13) (λm z=>by have h:=Wb (b:=b) m b8' bl;rw[hrb]at h;exact h)) ?_;iterate 12 refine AA ?_
  refine C6 ?_;iterate 3 refine AA ?_
  refine ol ?_;refine Mn ?_;iterate 2 refine AA ?_
  refine po ?_;refine kg ?_;refine AX (by first|exact Ev.skip (λ_=>rfl)|exact Ag (p:=nxE a b) rfl (λ_=>rfl) rfl rfl (Kg hrb).symm) ?_;iterate 6 refine AA ?_
  refine AX (by exact BL rfl rfl gg rfl (e:=4) (l:=[.bool (nxE a b)]) rfl (by decide) (λ_=>by kernel_rfl)) ?_;refine Ky ?_;iterate 4 refine AA ?_
  refine C4 ?_;iterate 2 refine AA ?_
  first|(refine VOk.weak (B:=λf=>⟨(.v cv::.v rv::.v (.int .i64 5)::.v (.int .i64 4)::.v (f 4)::.v (f 5)::.v (f 6)::.v (f 7)::.v (.bool false)::.d 964::.v (.slice none 0 0)::.v (.int .i64 1)::fv f 146 12 []),AJ [(964,.row 1 1 4 (.exact [.bool (nxE a b)]))]⟩) ((Ar (λi=>i==0||i==1||i==2||i==3||i==8||i==9||i==10||i==11) [13,14,57,63]).trans2 (λf=>Dk 64 964 (by decide) rfl)) λf=> ?_)|(refine VOk.weak (B:=λf=>⟨(.v cv::.v rv::.v (.int .i64 5)::.v (.int .i64 4)::.v (f 4)::.v (f 5)::.v (f 6)::.v (f 7)::.v (.bool false)::.d 964::.v (.slice none 0 0)::.v (.int .i64 1)::fv f 146 12 []),AJ [(964,.row 1 1 4 (.exact [.bool false]))]⟩) ((Ar (λi=>i==0||i==1||i==2||i==3||i==8||i==9||i==10||i==11) [13,14,57,63]).trans2 (λf=>Dk 64 964 (by decide) rfl)) λf=> ?_)
  simp only[fv,Nat.reduceAdd];iterate 5 refine AA ?_
  refine D2 ?_;refine EP ?_;iterate 13 refine AA ?_
  refine II ?_;refine AA ?_;refine D2 ?_;refine DY ?_;iterate 6 refine AA ?_
  refine Ml ?_;refine AX (by exact Di rfl rfl gg rfl rfl rfl (BI rfl) underlying99 el4 (by decide) rfl rfl (by simp only[maxLen];omega) (by omega) rfl) ?_;iterate 4 refine AA ?_
  refine II ?_;iterate 7 refine AA ?_
  refine D2 ?_;refine DY ?_;iterate 2 refine aT ?_
  refine As ?_;change VOk _ _ _ _ _;refine Ea (λi=>i==0||i==1||i==2||i==3||i==8||i==9||i==10) [963,964,63,57,13,14] (λf=>by simp[B0];exact rfl) (by simp[BQ];exact rfl) λf=> ?_
  exact j f
theorem vh{F:Nat->Prop}(hL:Laid w)(hK:B6 w)(hH:CQ w)(hb1:7<w.heap.size)(_C:Ci w)(hc:AO w cv 2 1 [va,vb] F)(_D:AO w va a.length 1 (a.map b8) Ga)(hb:AO w vb b.length 1 (b.map b8) Gb)(_z:∀x∈a,x<256)(_A:a.length<=1048576)(b8':∀x∈b,x<256)(bl:b.length<=1048576)(hr1:AO w rv 1 1 [vr] G)(m:B9 w G [r] [vr])(r8:∀x∈r,x<256)(rl:r.length<=1048576)(j:∀f:Nat->Value,VOk prog w ⟨(.v cv::.v rv::.v (.int .i64 5)::.v (.int .i64 4)::.v (f 4)::.v (f 5)::.v (f 6)::.v (f 7)::.v (.bool false)::.d 64::.d 103::fv f 147 11 []),AJ [(103,.row 1 1 4 (.exact [.bool (nxE b r)])),(64,.row 2 1 4 (.exact [.bool (nxE a b),.bool false]))]⟩ (Cm 4 (Ct f19)) (QB prog f19 w (λe o=>e=.returned (.bool true)/\Bw w o)))(f:Nat->Value):VOk prog w ⟨(.v cv::.v rv::.v (.int .i64 5)::.v (.int .i64 4)::.v (f 4)::.v (f 5)::.v (f 6)::.v (f 7)::.v (.bool false)::.d 64::.v (.slice none 0 0)::fv f 147 11 []),AJ [(64,.row 2 1 4 (.exact [.bool (nxE a b),.bool false]))]⟩ (Cm 3 (Ct f19)) (QB prog f19 w (λe o=>e=.returned (.bool true)/\Bw w o)):=by
 try simp only[fv,Nat.reduceAdd]
 iterate 6 refine AA ?_
 refine Br 2 ?_;change VOk _ _ _ _ _;iterate 5 refine AA ?_
 refine Ll ?_;refine EP ?_;iterate 2 refine AA ?_
 refine Jz ?_;refine Jy ?_;iterate 7 refine AA ?_
 rcases hrr:rdC r with _|⟨t,u,t2⟩
 .have q:=eM (a:=b) hrr
  rw[q]at j;iterate 3 refine AA ?_
  refine AX (by exact Bc (k:=0) rfl gg rfl rfl yX y7 (AW hr1) (by decide) (by decide)) ?_;refine AX (by exact Cb rfl gg rfl x7 rfl (AW hr1) rfl) ?_;refine AX (by exact Cc (bs:=r) rfl gg rfl x7 yL yF (AW m.1)) ?_;refine lr ?_;iterate 13 refine AA ?_
  refine Gt ?_;iterate 3 refine AA ?_
  refine Jz ?_;refine AX (by first|exact Ev.skip (λ_=>rfl)|exact Bu (c:=1) rfl (λ_=>rfl) rfl rfl (by decide)) ?_;refine nl ?_;refine Mn ?_;iterate 2 refine AA ?_
  refine pn ?_;refine kh ?_;refine AX (by first|exact Ev.skip (λ_=>rfl)|exact Ag (p:=nxE b r) rfl (λ_=>rfl) rfl rfl (Kg hrr).symm) ?_;refine AA ?_;refine Ml ?_;refine Ky ?_;iterate 4 refine AA ?_
  refine C4 ?_;iterate 7 refine AA ?_
  refine Ll ?_;refine DY ?_;iterate 2 refine AA ?_
  refine Jz ?_;refine Jy ?_;iterate 3 refine AA ?_
  refine As ?_;change VOk _ _ _ _ _;refine Ea (λi=>i==0||i==1||i==2||i==3||i==8||i==9||i==10) [17,18,98,102] (λf=>by simp[B0];exact rfl) (by simp[BQ];exact rfl) λf=> ?_
  exact j f
 .have hs2:=iG r8 rl hrr
  iterate 3 refine AA ?_
  refine AX (by exact Bc (k:=0) rfl gg rfl rfl yX y7 (AW hr1) (by decide) (by decide)) ?_;refine AX (by exact Cb rfl gg rfl x7 rfl (AW hr1) rfl) ?_;refine AX (by exact Cc (bs:=r) rfl gg rfl x7 yL yF (AW m.1)) ?_;refine AX (by exact Ad (v:=.tuple #[.agg #[.int .i64 t.se,.string (AB t.is),.string (AB t.su),.int .i64 t.fr,.int .i64 t.to,.string (AB t.ky),.bool t.ca,.int .i64 t.pa,.int .i64 t.us],PT u t2,.int .i64 0]) rfl gg rfl (eo func13) (λo s=>by have h:=Wb (b:=r) o r8 rl;rw[hrr]at h;exact h)) ?_;iterate 13 refine AA ?_
  refine C6 ?_;iterate 3 refine AA ?_
  refine Jz ?_;refine AX (by first|exact Ev.skip (λ_=>rfl)|exact Bu (c:=1) rfl (λ_=>rfl) rfl rfl (by decide)) ?_;refine nl ?_;refine Mn ?_;iterate 2 refine AA ?_
  refine pn ?_;refine kh ?_;refine AX (by first|exact Ev.skip (λ_=>rfl)|exact Ag (p:=nxE b r) rfl (λ_=>rfl) rfl rfl (Kg hrr).symm) ?_;refine AA ?_;refine AX (by exact BL rfl rfl gg rfl (e:=4) (l:=[.bool (nxE b r)]) rfl (by decide) (λ_=>by kernel_rfl)) ?_;refine Ky ?_;iterate 4 refine AA ?_
  refine C4 ?_;iterate 7 refine AA ?_
  refine Ll ?_;refine DY ?_;iterate 2 refine AA ?_
  refine Jz ?_;refine Jy ?_;iterate 3 refine AA ?_
  refine As ?_;change VOk _ _ _ _ _;refine Ea (λi=>i==0||i==1||i==2||i==3||i==8||i==9||i==10) [17,18,98,102] (λf=>by simp[B0];exact rfl) (by simp[BQ];exact rfl) λf=> ?_
  exact j f
theorem vg{F:Nat->Prop}(hL:Laid w)(hK:B6 w)(hH:CQ w)(hb1:7<w.heap.size)(hE:Ci w)(hc:AO w cv 2 1 [va,vb] F)(ha:AO w va a.length 1 (a.map b8) Ga)(hb:AO w vb b.length 1 (b.map b8) Gb)(a8:∀x∈a,x<256)(al:a.length<=1048576)(b8':∀x∈b,x<256)(bl:b.length<=1048576)(hr1:AO w rv 1 1 [vr] G)(hr2:B9 w G [r] [vr])(r8:∀x∈r,x<256)(rl:r.length<=1048576)(f:Nat->Value):VOk prog w ⟨(.v cv::.v rv::.v (.int .i64 5)::.v (.int .i64 4)::.v (f 4)::.v (f 5)::.v (f 6)::.v (f 7)::.v (.bool false)::.d 64::.d 103::fv f 147 11 []),AJ [(103,.row 1 1 4 (.exact [.bool (nxE b r)])),(64,.row 2 1 4 (.exact [.bool (nxE a b),.bool false]))]⟩ (Cm 4 (Ct f19)) (QB prog f19 w (λe j=>e=.returned (.bool true)/\Bw w j)):=by
 try simp only[fv,Nat.reduceAdd]
 refine aT ?_;rcases hT:tR2 5 a b r with⟨p,n⟩|c
 .skip
  iterate 5 refine AA ?_
  refine mr ?_;iterate 12 refine AA ?_
  refine mY ?_;refine AA ?_;refine pz ?_;iterate 4 refine AA ?_
  refine AX (by exact Aj (v:=.tuple #[.agg #[.int .i64 0,.string (AB []),.string (AB []),.int .i64 0,.int .i64 0,.string (AB []),.bool false,.int .i64 0,.int .i64 0],.int .i64 p,.int .i64 n]) [115,117,64,103] rfl gg rfl (eo func44) (λρ S j o i=>by have h:=eH (now:=5) j (EH (id:=115) i (by simp) rfl) (EH (id:=117) i (by simp) rfl) (EH (id:=64) i (by simp) rfl) (EH (id:=103) i (by simp) rfl) rfl rfl a8 al b8' bl r8 rl;rw[hT]at h;exact h)) ?_;iterate 13 refine AA ?_
  refine AX (by exact Ag (p:=true) rfl gg rfl rfl (yE rfl)) ?_;iterate 3 refine AA ?_
  refine AX (by first|exact Ev.skip (λ_=>rfl)|exact Ag (p:=true) rfl (λ_=>rfl) rfl rfl (yE rfl)) ?_;iterate 14 refine AA ?_
  refine AX (by first|exact Ev.skip (λ_=>rfl)|exact Cc (bs:=[]) rfl (λ_=>rfl) rfl x7 yL yF (AW (show AO w (.slice none 0 0) 0 1 (([]:List Nat).map b8) (λ_=>False) from⟨none,0,rfl,yD _,rfl,.inl rfl⟩))) ?_;iterate 6 refine AA ?_
  refine AX (by first|exact Ev.skip (λ_=>rfl)|exact A6 rfl (λ_=>rfl) rfl (qa _ _ _ _ _ _ _ _ _)) ?_;refine AA ?_;refine AX (by first|exact Ev.skip (λ_=>rfl)|exact AK (c:=.bool true) rfl (λ_=>rfl) rfl rfl (λw=>eqR _ _ _ _ _ _ _ _ _ _ _ w)) ?_;iterate 3 refine AA ?_
  exact AG (AD (AH results19 (AF rfl)) λ_ _ m=>⟨rfl,m.1⟩)
 .skip
  iterate 5 refine AA ?_
  refine KH ?_;iterate 5 refine AA ?_
  refine AX (by first|exact Bh (vl:=[.v (.int .i64 c.se),.v (.string (AB c.is)),.v (.string (AB c.su)),.v (.int .i64 c.fr),.v (.int .i64 c.to),.fn (AN 5) (.d 109),.v (.bool c.ca),.v (.int .i64 c.pa),.v (.int .i64 c.us)]) [109,20] rfl gg rfl rfl rfl yN rfl (λρ S j _ i=>by obtain⟨q,e,h⟩:=Nb (id:=109) i (by simp) rfl;exact QL e h) rfl (by simp)) ?_;iterate 6 refine AA ?_
  refine mY ?_;refine AA ?_;refine pz ?_;iterate 4 refine AA ?_
  refine AX (by exact Aj (v:=.tuple #[.agg #[.int .i64 c.se,.string (AB c.is),.string (AB c.su),.int .i64 c.fr,.int .i64 c.to,.string (AB c.ky),.bool c.ca,.int .i64 c.pa,.int .i64 c.us],.int .i64 0,.int .i64 0]) [115,117,64,103] rfl gg rfl (eo func44) (λρ S j o i=>by have h:=eH (now:=5) j (EH (id:=115) i (by simp) rfl) (EH (id:=117) i (by simp) rfl) (EH (id:=64) i (by simp) rfl) (EH (id:=103) i (by simp) rfl) rfl rfl a8 al b8' bl r8 rl;rw[hT]at h;exact h)) ?_;iterate 13 refine AA ?_
  refine C6 ?_;iterate 3 refine AA ?_
  refine q_141 ?_;iterate 14 refine AA ?_
  refine AX (by first|exact Ev.skip (λ_=>rfl)|exact Cc (bs:=c.ky) rfl (λ_=>rfl) rfl x7 yL yF (ua rfl)) ?_;iterate 6 refine AA ?_
  refine AX (by first|exact Ev.skip (λ_=>rfl)|exact A6 rfl (λ_=>rfl) rfl (qa _ _ _ _ _ _ _ _ _)) ?_;refine AA ?_;refine AX (by first|exact Ev.skip (λ_=>rfl)|exact AK (c:=.bool true) rfl (λ_=>rfl) rfl rfl (λw=>eqR _ _ _ _ _ _ _ _ _ _ _ w)) ?_;iterate 3 refine AA ?_
  exact AG (AD (AH results19 (AF rfl)) λ_ _ m=>⟨rfl,m.1⟩)
theorem vf{F:Nat->Prop}(u:Laid w)(t:B6 w)(s:CQ w)(h:7<w.heap.size)(q:Ci w)(C:AO w cv 2 1 [va,vb] F)(z:AO w va a.length 1 (a.map b8) Ga)(A:AO w vb b.length 1 (b.map b8) Gb)(l:∀x∈a,x<256)(m:a.length<=1048576)(c:∀x∈b,x<256)(o:b.length<=1048576)(i:AO w rv 1 1 [vr] G)(j:B9 w G [r] [vr])(D:∀x∈r,x<256)(E:r.length<=1048576):Calls prog 19 #[cv,rv,.int .i64 5,.int .i64 4] w (λe H=>e=.returned (.bool true)/\Bw w H):=
 vj w u t s h q C z A l m c o i j D E λf=>vh w u t s h q C z A l m c o i j D E (λf=>vg w u t s h q C z A l m c o i j D E f) f
theorem tv(h:tR2 now a b r=.inl (p,n)):n≠0:=by
 have j:∀{i c e},AP now i c=some e->e≠0:=by
  intro i c e f;unfold AP at f;generalize ouE now c=y at f;cases y<;>simp only[cond_true,cond_false]at f
  .generalize (bif decide (i=0)then usE c else isE (↑i) c)=z at f
   cases z<;>simp only[cond_true,cond_false]at f
   .cases f
   .injection f with f;omega
  .injection f with f;omega
 have l:∀{c:Crt} {x} {p n:Int},Cg 0 a c x=some (p,n)->n≠0:=by
  intro c x p n f;rcases x with _|⟨d,r1,t1⟩
  .simp only[Cg,yT,RC]at f;omega
  .simp only[Cg]at f
   generalize decide (d.su≠c.is)=z at f;generalize decide (Ob a d.ky≠0)=y at f;cases z<;>cases y<;>simp only[cond_true,cond_false,yT,RC,reduceCtorEq]at f<;>omega
 unfold tR2 at h;split at h
 .injection h with h;injection h with _ h;omega
 .split at h
  .rename_i e he;injection h with h;injection h with _ h;subst h;exact j he
  .split at h
   .rename_i q hq;injection h with h;subst h;exact l hq
   .split at h
    .injection h with h;injection h with _ h;omega
    .split at h
     .rename_i e he;injection h with h;injection h with _ h;subst h;exact j he
     .rename_i d _ _ _ _
      generalize rok now 1 _ b r=z at h;cases z<;>simp only[cond_true,cond_false]at h
      .injection h with h;injection h with _ h;omega
      .cases h
theorem we{i:Value}{F:Nat->Prop}(hL:Laid w)(hK:B6 w)(hH:CQ w)(hb1:7<w.heap.size)(hE:Ci w)(hc:AO w i 2 1 [va,vb] F)(ha:AO w va a.length 1 (a.map b8) Ga)(hb:AO w vb b.length 1 (b.map b8) Gb)(a8:∀x∈a,x<256)(al:a.length<=1048576)(b8':∀x∈b,x<256)(bl:b.length<=1048576)(hr1:AO w rv 1 1 [vr] G)(hr2:B9 w G [r] [vr])(r8:∀x∈r,x<256)(rl:r.length<=1048576)(hx:AO w vx X.length 1 (X.map b8) Gx)(X8:∀x∈X,x<256)(_m:X.length<=1048576)(B8:∀x∈B,x<256){c:Crt}(hT:tR2 5 a b r=.inr c)(hq:decide (X=B)=true)(f:Nat->Value):VOk prog w ⟨(fv f 7 0 (.v i::.v rv::.v (.int .i64 (k:Nat))::.v (f 10)::.v vx::.v (.string (AB B))::fv f 78 13 [])),AJ []⟩ (Cm 9 (Ct Tryz.f5)) (QB prog Tryz.f5 w (λe l=>e=.returned (.bool true)/\Bw w l)):=by
 try simp only[fv,Nat.reduceAdd]
 iterate 4 refine AA ?_
 refine KH ?_;iterate 5 refine AA ?_
 refine KI ?_;iterate 7 refine AA ?_
 refine J0 ?_;refine AA ?_;refine KJ ?_;iterate 5 refine AA ?_
 refine C6 ?_;iterate 2 refine AA ?_
 exact AG (AD (AH results5 (AF rfl)) λ_ _ j=>⟨rfl,j.1⟩)
theorem wd{i:Value}{F:Nat->Prop}(hL:Laid w)(hK:B6 w)(hH:CQ w)(hb1:7<w.heap.size)(hE:Ci w)(hc:AO w i 2 1 [va,vb] F)(ha:AO w va a.length 1 (a.map b8) Ga)(hb:AO w vb b.length 1 (b.map b8) Gb)(a8:∀x∈a,x<256)(al:a.length<=1048576)(b8':∀x∈b,x<256)(bl:b.length<=1048576)(hr1:AO w rv 1 1 [vr] G)(hr2:B9 w G [r] [vr])(r8:∀x∈r,x<256)(rl:r.length<=1048576)(hx:AO w vx X.length 1 (X.map b8) Gx)(X8:∀x∈X,x<256)(_o:X.length<=1048576)(B8:∀x∈B,x<256)(hT:tR2 5 a b r=.inl (p,n))(j:decide (n≠0)=true)(hq:decide (X=B)=false)(f:Nat->Value):VOk prog w ⟨(fv f 7 0 (.v i::.v rv::.v (.int .i64 (k:Nat))::.v (f 10)::.v vx::.v (.string (AB B))::fv f 78 13 [])),AJ []⟩ (Cm 9 (Ct Tryz.f5)) (QB prog Tryz.f5 w (λe m=>e=.returned (.bool true)/\Bw w m)):=by
 try simp only[fv,Nat.reduceAdd]
 iterate 4 refine AA ?_
 refine mr ?_;iterate 5 refine AA ?_
 refine KI ?_;iterate 7 refine AA ?_
 refine J0 ?_;refine AA ?_;refine KJ ?_;iterate 7 refine AA ?_
 refine Li ?_;iterate 2 refine AA ?_
 refine AX (by first|exact Ev.skip (λ_=>rfl)|exact BB (p:=true) rfl (λ_=>rfl) rfl rfl j) ?_;iterate 2 refine AA ?_
 refine FX ?_;iterate 4 refine AA ?_
 iterate 5 refine FX ?_
 iterate 4 refine AA ?_
 exact AG (AD (AH results5 (AF rfl)) λ_ _ l=>⟨rfl,l.1⟩)
theorem wY{i:Value}{F:Nat->Prop}(hL:Laid w)(hK:B6 w)(hH:CQ w)(hb1:7<w.heap.size)(hE:Ci w)(hc:AO w i 2 1 [va,vb] F)(ha:AO w va a.length 1 (a.map b8) Ga)(hb:AO w vb b.length 1 (b.map b8) Gb)(a8:∀x∈a,x<256)(al:a.length<=1048576)(b8':∀x∈b,x<256)(bl:b.length<=1048576)(hr1:AO w rv 1 1 [vr] G)(hr2:B9 w G [r] [vr])(r8:∀x∈r,x<256)(rl:r.length<=1048576)(hx:AO w vx X.length 1 (X.map b8) Gx)(X8:∀x∈X,x<256)(_m:X.length<=1048576)(B8:∀x∈B,x<256){c:Crt}(hT:tR2 5 a b r=.inr c)(hq:decide (X=B)=false)(f:Nat->Value):VOk prog w ⟨(fv f 7 0 (.v i::.v rv::.v (.int .i64 2)::.v (f 10)::.v vx::.v (.string (AB B))::fv f 78 13 [])),AJ []⟩ (Cm 9 (Ct Tryz.f5)) (QB prog Tryz.f5 w (λe l=>e=.returned (.bool true)/\Bw w l)):=by
 try simp only[fv,Nat.reduceAdd]
 iterate 4 refine AA ?_
 refine KH ?_;iterate 5 refine AA ?_
 refine KI ?_;iterate 7 refine AA ?_
 refine J0 ?_;refine AA ?_;refine KJ ?_;iterate 7 refine AA ?_
 refine Li ?_;iterate 2 refine AA ?_
 refine Gs ?_;iterate 2 refine AA ?_
 refine q_141 ?_;iterate 4 refine AA ?_
 iterate 5 refine FX ?_
 iterate 4 refine AA ?_
 exact AG (AD (AH results5 (AF rfl)) λ_ _ j=>⟨rfl,j.1⟩)
theorem wc{o:Value}{F:Nat->Prop}(hL:Laid w)(hK:B6 w)(hH:CQ w)(hb1:7<w.heap.size)(hE:Ci w)(hc:AO w o 2 1 [va,vb] F)(ha:AO w va a.length 1 (a.map b8) Ga)(hb:AO w vb b.length 1 (b.map b8) Gb)(a8:∀x∈a,x<256)(al:a.length<=1048576)(b8':∀x∈b,x<256)(bl:b.length<=1048576)(hr1:AO w rv 1 1 [vr] G)(hr2:B9 w G [r] [vr])(r8:∀x∈r,x<256)(rl:r.length<=1048576)(hx:AO w vx X.length 1 (X.map b8) Gx)(X8:∀x∈X,x<256)(t:X.length<=1048576)(B8:∀x∈B,x<256){c:Crt}(hT:tR2 5 a b r=.inr c)(hq:decide (X=B)=false)(s:Ob X CN=0)(f:Nat->Value):VOk prog w ⟨(fv f 7 0 (.v o::.v rv::.v (.int .i64 0)::.v (f 10)::.v vx::.v (.string (AB B))::fv f 78 13 [])),AJ []⟩ (Cm 9 (Ct Tryz.f5)) (QB prog Tryz.f5 w (λe j=>e=.returned (.bool true)/\Bw w j)):=by
 try simp only[fv,Nat.reduceAdd]
 iterate 4 refine AA ?_
 refine KH ?_;iterate 5 refine AA ?_
 refine KI ?_;iterate 7 refine AA ?_
 refine J0 ?_;refine AA ?_;refine KJ ?_;iterate 7 refine AA ?_
 refine Li ?_;iterate 2 refine AA ?_
 refine Gs ?_;iterate 2 refine AA ?_
 refine O8 ?_;iterate 4 refine AA ?_
 refine AX (by first|exact Ev.skip (λ_=>rfl)|exact BE (c:=1) rfl (λ_=>rfl) rfl rfl (by decide)) ?_;refine AX (by first|exact Ev.skip (λ_=>rfl)|exact B1 (c:=.int .u8 1) rfl (λ_=>rfl) rfl (λw=>by kernel_rfl)) ?_;refine AX (by first|exact Ev.skip (λ_=>rfl)|exact Cs [] rfl rfl (λ_=>rfl) rfl (eo func21) (n:=65) (size:=1) (l:=CN.map b8) (by rfl) (λρ S j i m=>uk j (hL.bw i))) ?_;refine AX (by first|exact Ev.skip (λ_=>rfl)|exact Aj (v:=.int .i64 0) [86] rfl (λ_=>rfl) rfl (eo func20) (λρ S j i m=>by have h:=Mq (l:=CN) 86 (hL.bw i) (hK.bw i) (hH.bw i) (yK hb1 (Below.size i)) (A5 hx i) X8 t (Y0 _ _) (by rfl) m (by simp) rfl;rw[s]at h;exact h)) ?_;refine q_141 ?_;iterate 4 refine AA ?_
 exact AG (AD (AH results5 (AF rfl)) λ_ _ q=>⟨rfl,q.1⟩)
theorem wZ{o:Value}{F:Nat->Prop}(hL:Laid w)(hK:B6 w)(hH:CQ w)(hb1:7<w.heap.size)(hE:Ci w)(hc:AO w o 2 1 [va,vb] F)(ha:AO w va a.length 1 (a.map b8) Ga)(hb:AO w vb b.length 1 (b.map b8) Gb)(a8:∀x∈a,x<256)(al:a.length<=1048576)(b8':∀x∈b,x<256)(bl:b.length<=1048576)(hr1:AO w rv 1 1 [vr] G)(hr2:B9 w G [r] [vr])(r8:∀x∈r,x<256)(rl:r.length<=1048576)(hx:AO w vx X.length 1 (X.map b8) Gx)(X8:∀x∈X,x<256)(t:X.length<=1048576)(B8:∀x∈B,x<256){c:Crt}(hT:tR2 5 a b r=.inr c)(hq:decide (X=B)=false)(s:Ob X Ch=0)(f:Nat->Value):VOk prog w ⟨(fv f 7 0 (.v o::.v rv::.v (.int .i64 1)::.v (f 10)::.v vx::.v (.string (AB B))::fv f 78 13 [])),AJ []⟩ (Cm 9 (Ct Tryz.f5)) (QB prog Tryz.f5 w (λe j=>e=.returned (.bool true)/\Bw w j)):=by
 try simp only[fv,Nat.reduceAdd]
 iterate 4 refine AA ?_
 refine KH ?_;iterate 5 refine AA ?_
 refine KI ?_;iterate 7 refine AA ?_
 refine J0 ?_;refine AA ?_;refine KJ ?_;iterate 7 refine AA ?_
 refine Li ?_;iterate 2 refine AA ?_
 refine Gs ?_;iterate 2 refine AA ?_
 refine O8 ?_;iterate 4 refine AA ?_
 refine AX (by first|exact Ev.skip (λ_=>rfl)|exact BE (c:=2) rfl (λ_=>rfl) rfl rfl (by decide)) ?_;refine AX (by first|exact Ev.skip (λ_=>rfl)|exact B1 (c:=.int .u8 2) rfl (λ_=>rfl) rfl (λw=>by kernel_rfl)) ?_;refine AX (by first|exact Ev.skip (λ_=>rfl)|exact Cs [] rfl rfl (λ_=>rfl) rfl (eo func21) (n:=65) (size:=1) (l:=Ch.map b8) (by rfl) (λρ S j i m=>uj j (hL.bw i))) ?_;refine AX (by first|exact Ev.skip (λ_=>rfl)|exact Aj (v:=.int .i64 0) [86] rfl (λ_=>rfl) rfl (eo func20) (λρ S j i m=>by have h:=Mq (l:=Ch) 86 (hL.bw i) (hK.bw i) (hH.bw i) (yK hb1 (Below.size i)) (A5 hx i) X8 t (Y0 _ _) (by rfl) m (by simp) rfl;rw[s]at h;exact h)) ?_;refine q_141 ?_;iterate 4 refine AA ?_
 exact AG (AD (AH results5 (AF rfl)) λ_ _ q=>⟨rfl,q.1⟩)
theorem tu{c:Crt}(h:tR2 now a b r=.inr c)(m:rdC b=some (d,r1,t1)):Ob a d.ky=0:=by
 unfold tR2 at h;rcases i:rdC a with _|⟨j,o,t0⟩
 .simp only[i]at h;cases h
 .simp only[i]at h
  rcases l:AP now 0 j with _|e
  .simp only[l]at h
   rcases f:Cg 0 a j (rdC b)with _|p
   .rw[m]at f
    by_cases e:Ob a d.ky=0
    .exact e
    .exfalso
     simp only[Cg]at f;rw[yE e]at f;generalize decide (d.su≠j.is)=z at f;cases z<;>simp only[cond_true,cond_false,reduceCtorEq]at f
   .simp only[f]at h;cases h
  .simp only[l]at h;cases h
theorem tt{c t:Crt}{l m:Nat}(h:tR2 now a b r=.inr c)(j:rdC r=some (t,l,m)):Ob b t.ky=0:=by
 unfold tR2 at h;split at h
 .cases h
 .split at h
  .cases h
  .split at h
   .cases h
   .split at h
    .cases h
    .split at h
     .cases h
     .by_cases e:Ob b t.ky=0
      .exact e
      .exfalso
       have i:∀f,rok now 1 f b r=false:=by
        intro f;unfold rok;rw[j];simp only;rw[yB e,Bool.and_false]
       rw[i]at h;cases h
theorem uP:Ob wtH CN=0:=by
 have c:rdC wtH=some (tH,bg9,Dr):=Kc;unfold Ob;rw[c];exact uE
theorem uO:Ob wtI Ch=0:=by
 have c:rdC wtI=some (tI,bg7,bg8):=JP;unfold Ob;rw[c];exact uB
theorem vz:AP 5 0 tH=none:=by
 show(bif decide ((5:Int)<0)||decide ((5:Int)>50)then some (7:Int)else bif (bif decide ((0:Nat)=0)then decide ((5:Int) %2=0)||decide ((5:Int)/4 %2=0)else isE 0 tH)then some (9:Int)else none)=none;rfl
theorem vy:AP 5 1 tI=none:=by
 show(bif decide ((5:Int)<0)||decide ((5:Int)>50)then some (7:Int)else bif (bif decide ((1:Nat)=0)then usE tI else !true||decide ((0:Int)<((1:Nat):Int)-1))then some (9:Int)else none)=none;rfl
theorem ul:Cg 0 wtH tH (some (tI,bg7,bg8))=none:=by
 show(bif decide (tI.su≠tH.is)then some ((0:Int),(8:Int))else bif decide (Ob wtH CN≠0)then some (0,6)else none)=none;rw[uP];rfl
theorem uV:rok 5 1 tI.is wtI wtJ=true:=by
 have hJ:rdC wtJ=some (tJ,EL,EK):=Kb;unfold rok;rw[hJ];show(true && !decide ((1:Int)<((1:Nat):Int)) && !decide ((5:Int)<0) && !decide ((5:Int)>50) && !decide (tJ.su≠tI.is) && decide (Ob wtI Ch=0))=true;rw[uO];decide
theorem tw{c:Crt}{m o:Nat}(h:rdC a=some (c,m,o))(e:AP now 0 c=none)(i:rdC b=some (d,r1,t1))(l:Cg 0 a c (some (d,r1,t1))=none)(f:AP now 1 d=none)(j:rok now 1 d.is b r=true):tR2 now a b r=.inr c:=by
 unfold tR2;simp only[h,e,i,l,f,j,cond_true]
theorem u7:tR2 5 wtH wtI wtJ=.inr tH:=tw Kc vz JP ul vy uV
theorem v8{A B C:World->Prop}(h:∃w,A w/\C w)(k:∀w,C w->B w):∃w,A w/\B w:=h.imp λw h=>⟨h.1,k w h.2⟩
theorem uR{l:List Nat}{i:Nat}(h:∀x∈l,x<256)(e:y<256):∀x∈l.set i y,x<256:=λx c=>by
 rcases List.mem_or_eq_of_mem_set c with h1|h1
 .exact h x h1
 .omega
theorem wW{w m:World}{P:Value}(T:k<3)(A:Cut5 w m P rv (λj=>if j=k then X else W5w j) g v)(z:∀x∈X,x<256)(D:X.length<=1048576)(K:Laid m)(J:B6 m)(I:CQ m)(q:7<m.heap.size)(H:Ci m)(f:Nat->Value):VOk prog m ⟨(fv f 7 0 (.v P::.v rv::.v (.int .i64 (k:Nat))::.v (f 10)::.v (v k)::.v (.string (AB (W5w k)))::fv f 78 13 [])),AJ []⟩ (Cm 9 (Ct Tryz.f5)) (QB prog Tryz.f5 m (λe V=>e=.returned (.bool true)/\Bw m V)):=by
 try simp only[fv,Nat.reduceAdd]
 obtain⟨al,_,L,_⟩:=A.l;obtain⟨ar,_,U,_⟩:=A.r
 have i:∀j,(∀x∈(if j=k then X else W5w j),x<256)/\(if j=k then X else W5w j).length<=1048576:=λj=>by
  split
  .exact⟨z,D⟩
  .exact⟨(GU j).1,(GU j).2.1⟩
 have E:=(A.byt 0 (by decide)).sl;have F:=(A.byt 1 (by decide)).sl;have Q:=(A.byt 2 (by decide)).sl;have bk:=(A.byt k T).sl;rw[x9 rfl]at bk;have s:AO m rv 1 1 [v 2] (λj=>j=ar\/j=g 2):=Fy (λ_ h=>Or.inl h) U;have u:B9 m (λj=>j=ar\/j=g 2) [if 2=k then X else W5w 2] [v 2]:=⟨Fy (λ_ h=>Or.inr h) Q,trivial⟩
 rcases o:tR2 5 (if 0=k then X else W5w 0) (if 1=k then X else W5w 1) (if 2=k then X else W5w 2)with⟨p,n⟩|c<;>cases C:decide (X=W5w k)
 .exact wd m K J I q H L E F (i 0).1 (i 0).2 (i 1).1 (i 1).2 s u (i 2).1 (i 2).2 bk z D (GU k).1 o (yE (tv o)) C f
 .exfalso
  have e:=yA C
  have M:∀j,(if j=k then X else W5w j)=W5w j:=λj=>by
   by_cases h:j=k
   .rw[x9 h,h,e]
   .rw[x8 h]
  rw[M,M,M]at o;have R:tR2 5 (W5w 0) (W5w 1) (W5w 2)=.inr tH:=u7;rw[R]at o;cases o
 .have N:k=0\/k=1\/k=2:=by omega
  rcases N with rfl|rfl|rfl
  .have O:Ob X CN=0:=tu (d:=tI) o JP
   exact wc m K J I q H L E F (i 0).1 (i 0).2 (i 1).1 (i 1).2 s u (i 2).1 (i 2).2 bk z D (GU 0).1 o C O f
  .have O:Ob X Ch=0:=tt (t:=tJ) o Kb
   exact wZ m K J I q H L E F (i 0).1 (i 0).2 (i 1).1 (i 1).2 s u (i 2).1 (i 2).2 bk z D (GU 1).1 o C O f
  .exact wY m K J I q H L E F (i 0).1 (i 0).2 (i 1).1 (i 1).2 s u (i 2).1 (i 2).2 bk z D (GU 2).1 o C f
 .exact we m K J I q H L E F (i 0).1 (i 0).2 (i 1).1 (i 1).2 s u (i 2).1 (i 2).2 bk z D (GU k).1 o C f
theorem wX{x z:Int}(Z:y<256)(hL:Laid w)(hK:B6 w)(hH:CQ w)(hE:Ci w)(o:7<w.heap.size):CBy 5 #[.int .i64 x,.int .i64 z,.int .u8 (y:Nat)] w (.bool true):=by
 go_enter func5,ntmps5
 refine wgo ?_;simp only[List.map_cons,List.map_nil];refine FT ?_;iterate 3 refine AA ?_
 refine⟨rfl,?_⟩;refine FT ?_;refine aT ?_;refine AX (by exact A6 (cells:=(.agg #[.int .u8 0,.int .u8 1,.int .u8 1,.int .i64 0,.int .i64 50,.bool false,.int .i64 0,.int .i64 5]:Value).cells) rfl gg rfl (by kernel_rfl)) ?_;refine AX (by exact A6 (cells:=(.agg #[.int .u8 1,.int .u8 2,.int .u8 2,.int .i64 0,.int .i64 50,.bool true,.int .i64 0,.int .i64 1]:Value).cells) rfl gg rfl (by kernel_rfl)) ?_;refine AX (by exact NU (ys:=[.v (.agg #[.int .u8 0,.int .u8 1,.int .u8 1,.int .i64 0,.int .i64 50,.bool false,.int .i64 0,.int .i64 5]),.v (.agg #[.int .u8 1,.int .u8 2,.int .u8 2,.int .i64 0,.int .i64 50,.bool true,.int .i64 0,.int .i64 1])]) (size:=8) (l:=[(.v (.int .u8 0)),(.v (.int .u8 1)),(.v (.int .u8 1)),(.v (.int .i64 0)),(.v (.int .i64 50)),(.v (.bool false)),(.v (.int .i64 0)),(.v (.int .i64 5)),(.v (.int .u8 1)),(.v (.int .u8 2)),(.v (.int .u8 2)),(.v (.int .i64 0)),(.v (.int .i64 50)),(.v (.bool true)),(.v (.int .i64 0)),(.v (.int .i64 1))]) (ls:=[[(.v (.int .u8 0)),(.v (.int .u8 1)),(.v (.int .u8 1)),(.v (.int .i64 0)),(.v (.int .i64 50)),(.v (.bool false)),(.v (.int .i64 0)),(.v (.int .i64 5))],[(.v (.int .u8 1)),(.v (.int .u8 2)),(.v (.int .u8 2)),(.v (.int .i64 0)),(.v (.int .i64 50)),(.v (.bool true)),(.v (.int .i64 0)),(.v (.int .i64 1))]]) [] rfl rfl gg rfl rfl rfl (λρ S E hb P j y lj Z hl=>by rcases j with _|_|j<;>simp only[List.getElem?_cons_zero,List.getElem?_cons_succ,List.getElem?_nil,yT,reduceCtorEq]at Z hl<;>(subst Z hl;rfl)) (by simp) rfl rfl underlying47 (by kernel_rfl) (by kernel_rfl) (by decide) (by decide)) ?_;refine AX (by exact Al (D:=Jx [wtH,wtI]) [18] rfl rfl gg rfl (eo func15) (λρ S E I P=>uU (ls:=[.int .u8 0,.int .u8 1,.int .u8 1,.int .i64 0,.int .i64 50,.bool false,.int .i64 0,.int .i64 5,.int .u8 1,.int .u8 2,.int .u8 2,.int .i64 0,.int .i64 50,.bool true,.int .i64 0,.int .i64 1]) (m:=2) E (by decide) (by decide) (List.cons_ne_nil _ _) (uS (id:=18) P (by simp) rfl rfl) (un E (hL.bw I) (hK.bw I) (hH.bw I) (yK o (Below.size I))))) ?_;iterate 2 refine AA ?_
 refine⟨rfl,?_⟩;refine FT ?_;refine aT ?_;refine AX (by exact A6 (cells:=(.agg #[.int .u8 2,.int .u8 2,.int .u8 2,.int .i64 0,.int .i64 50,.bool true,.int .i64 1,.int .i64 0]:Value).cells) rfl gg rfl (by kernel_rfl)) ?_;refine AX (by exact Cs [] rfl rfl gg rfl (eo func16) (n:=wtJ.length) (size:=1) (l:=wtJ.map b8) (by simp) (λρ S E I P=>uo E (hL.bw I) (hK.bw I) (hH.bw I) (yK o (Below.size I)))) ?_;refine AX (by exact Ty (n:=1) (l:=[.d 21]) [21] rfl rfl gg rfl (λρ S E P=>by have hd:=EH (id:=21) P (by simp) rfl;exact BT Array.toList (Hy hd).1) rfl rfl Mr) ?_;iterate 2 refine AA ?_
 refine⟨rfl,?_⟩;intro ρ w1 hr;obtain⟨g,v,L⟩:=wL hr rfl rfl rfl;have hb:=hr.1;refine XG rfl ?_ _;simp only[List.map_cons,List.map_nil,SV.c];obtain⟨lv,T⟩:∃lv,(ρ 19).val=lv:=⟨_,rfl⟩
 obtain⟨rv,Y⟩:∃rv,Value.slice (some ⟨(ρ 22).g,0,none⟩) 1 1=rv:=⟨_,rfl⟩
 rw[T,Y]at L;simp only[T,Y];have a4:=hL.bw hb;have a3:=hK.bw hb;have a2:=hH.bw hb;have J:=yK o (Below.size hb);have a1:=hE.bw o hb;obtain⟨k,hk⟩:∃k,FY x %3=k:=⟨_,rfl⟩
 have s:k<3:=by omega
 obtain⟨fl,_,hl,_⟩:=L.l;obtain⟨fr,_,a7,_⟩:=L.r;have u:=(L.byt k s).sl;have V:∀j,j<3->(v j).oneCell'=true:=λj hj=>(Hy (L.byt j hj).sl).2
 have a5:([v 0,v 1]:List Value).all (·.oneCell')=true:=by simp[V]
 have a6:([v 2]:List Value).all (·.oneCell')=true:=by simp[V]
 have a9:([v 0,v 1,v 2]:List Value)[k]? =some (v k):=by
  have:k=0\/k=1\/k=2:=by omega
  rcases this with rfl|rfl|rfl<;>rfl
 have F:=GU k;have U:0<(W5w k).length:=List.length_pos_iff.2 F.2.2;obtain⟨M,Q⟩:∃i,FY z %(W5w k).length=i:=⟨_,rfl⟩
 have H:M<(W5w k).length:=by rw[<-Q];exact yJ _ U
 obtain⟨x0,K⟩:∃x,(W5w k)[M]? =some x:=⟨_,zK H⟩
 have N:x0<256:=F.1 x0 (zA K);have a8:=JH K;refine FT ?_;iterate 2 refine AA ?_
 refine AX (by exact B1 (c:=.int .u64 ((FY x:Nat):Int)) rfl gg rfl (λw=>qI x w)) ?_;refine AX (by exact AK (c:=.int .u64 ((k:Nat):Int)) rfl gg rfl rfl (λw=>by have h:=dp (FY x) 3 (by decide);rw[hk]at h;exact h _ _ w)) ?_;refine AX (by exact B1 (c:=.int .i64 ((k:Nat):Int)) rfl gg rfl (λw=>qH (by omega) w)) ?_;iterate 2 refine AA ?_
 refine⟨rfl,?_⟩;refine FT ?_;refine aT ?_;refine AX (by exact BL rfl rfl gg rfl (e:=23) (l:=[]) rfl (by decide) (λ_=>by kernel_rfl)) ?_;refine AA ?_;refine AX (by exact Di rfl rfl gg rfl rfl rfl (AW hl) yX Ov (by decide) rfl a5 (by simp only[maxLen];omega) (by omega) rfl) ?_;refine AA ?_;refine AX (by exact Di rfl rfl gg rfl rfl rfl (AW a7) yX Ov (by decide) rfl a6 (by simp only[maxLen];omega) (by omega) rfl) ?_;iterate 2 refine AA ?_
 refine⟨rfl,?_⟩;refine FT ?_;iterate 3 refine AA ?_
 refine AX (by exact Bc (k:=k) rfl gg rfl rfl yX y7 (BI rfl) s (by decide)) ?_;refine AX (by exact Cb rfl gg rfl x7 rfl (BI rfl) a9) ?_;iterate 2 refine AA ?_
 refine⟨rfl,?_⟩;refine FT ?_;iterate 2 refine aT ?_
 refine AX (by exact Ad (v:=.bool true) rfl gg rfl (eo func17) (λE C=>tj E (a4.bw C) (a3.bw C) (a2.bw C) (a1.bw J C) (yK J C.size))) ?_;iterate 3 refine AA ?_
 refine AX (by first|exact Ev.skip (λ_=>rfl)|exact BU rfl (λ_=>rfl) rfl x7 (AW u)) ?_;refine AX (by first|exact Ev.skip (λ_=>rfl)|exact Ag (p:=false) rfl (λ_=>rfl) rfl rfl (yB (by omega))) ?_;iterate 4 refine AA ?_
 refine⟨rfl,?_⟩;refine FT ?_;iterate 2 refine AA ?_
 refine AX (by exact Cc (bs:=W5w k) rfl gg rfl x7 yL yF (AW u)) ?_;iterate 2 refine AA ?_
 refine⟨rfl,?_⟩;apply tY (ho:=rfl)
 .change VE _ _ _ [_,_,_,_,_,_,_,_,_,_,_,_,_] _ _ _
  apply VE.cons
  .exact Ap rfl gg
  simp only[nmx,seval];apply VE.cons
  .exact Ap rfl gg
  simp only[nmx,seval];apply VE.cons
  .exact B1 (c:=.int .u64 ((FY z:Nat):Int)) rfl gg rfl (λw=>qI z w)
  simp only[nmx,seval];apply VE.cons
  .exact Ap rfl gg
  simp only[nmx,seval];apply VE.cons
  .exact BU rfl gg rfl x7 (AW u)
  simp only[nmx,seval];apply VE.cons
  .exact B1 (c:=.int .u64 (((W5w k).length:Nat):Int)) rfl gg rfl (λw=>pI (by omega) w)
  simp only[nmx,seval];apply VE.cons
  .exact AK (c:=.int .u64 ((M:Nat):Int)) rfl gg rfl rfl (λw=>by have h:=dp (FY z) (W5w k).length U;rw[Q]at h;exact h _ _ w)
  simp only[nmx,seval];apply VE.cons
  .exact B1 (c:=.int .i64 ((M:Nat):Int)) rfl gg rfl (λw=>qH (by omega) w)
  simp only[nmx,seval];apply VE.cons
  .exact Bc (k:=M) rfl gg rfl rfl x7 yG (AW u) (H) (by decide)
  simp only[nmx,seval];apply VE.cons
  .exact Cb rfl gg rfl yL rfl (AW u) a8
  simp only[nmx,seval];apply VE.cons
  .exact Ap rfl gg
  simp only[nmx,seval];apply VE.cons
  .exact AK (c:=b8 (x0^^^y)) rfl gg rfl rfl (λw=>Uw N Z _ _ w)
  simp only[nmx,seval];apply VE.cons
  .exact Bc (k:=M) rfl gg rfl rfl x7 yG (AW u) (H) (by decide)
  simp only[nmx,seval];exact VE.nil _
 .kernel_rfl
 .rfl
 .rfl
 .intro b0 w2 W
  have O:=L.bw W.1;refine v8 (uN (x:=.tmp 57) (y:=.tmp 56) (z:=x0^^^y) ?_ ?_ ?_ (O.byt k s) H) ?_
  .rfl
  .rfl
  .rfl
  rintro w3 ⟨e2,e3,e4,e5,e6,e7⟩;have a0:=O.set s e5 e6 e7;have A:Bw w w2:=hb.trans W.1;have q:Bw w w3:=⟨e2.trans A.os,e3.trans A.tape,e4.trans A.output,by rw[e5];exact A.size,λj hj=>(e6 j (by have:=L.lo k s;omega)).trans (A.block j hj)⟩
  refine XG rfl ?_ _;simp only[List.map_cons,List.map_nil,SV.c];refine tX (R:=λe E=>e=.returned (.bool true)/\Bw w3 E) (λe E h=>⟨h.1,q.trans h.2⟩) ?_;refine Ea (λi=>i==7||i==8||i==9||i==11||i==12) [] (λf=>by simp[B0];exact rfl) (by simp[BQ];exact rfl) λf=> ?_
  exact wW s a0 (uR F.1 (Nat.xor_lt_two_pow (n:=8) N Z)) (by rw[List.length_set];exact F.2.1) (hL.bw q) (hK.bw q) (hH.bw q) (yK o (Below.size q)) (hE.bw o q) f
end Go.Proofs.YtafbhakmkbehiaaGreatDoor
