import Derived.Test.YtafbhakmkbehiaaGreatDoorZ21
open Go.Proofs.Tryz
set_option maxHeartbeats 4000000
set_option maxRecDepth 100000
namespace Go.Proofs.YtafbhakmkbehiaaGreatDoor
open Go.RowKit Go.Vx
variable(w:World){ops:Array Oper}{b r:List Nat}{rd:List Nat→Tr×List Nat×Bool}{ks:List Tr}{d k n t tg u:Nat}{ρ:Nat→Nm}{S:Nat→Prop}{x:Operand}{P:Program}{s:VS}{v:Value}{w0:World}
open Go.Toll (Gw)
def Aw(b:List Nat):Nat×Nat×Nat:=
 match b with
 |t::c::r=>
  bif decide (c<128)then(t,c,2)else
  bif decide (c=129) && decide (1≤r.length)then(bif decide (r.getD 0 0<128)then(0,0,0)else(t,r.getD 0 0,3))else
  bif decide (c=130) && decide (2≤r.length)then(bif decide (r.getD 0 0*256+r.getD 1 0<256)then(0,0,0)else(t,r.getD 0 0*256+r.getD 1 0,4))else(0,0,0)
 |_=>(0,0,0)
def noT:Tr:= .mk 0 [] []
def noR:Tr×List Nat×Bool:=(noT,[],false)
def CC(rd:List Nat→Tr×List Nat×Bool):Nat→List Nat→List Tr→Option (List Tr)
 |_,[],acc=>some acc
 |0,_::_,_=>none
 |n+1,x::r,acc=>bif !(rd (x::r)).2.2||decide (acc.length=20)then none else CC rd n (rd (x::r)).2.1 (acc++[(rd (x::r)).1])
def A9:Nat→List Nat→Tr×List Nat×Bool
 |0,_=>noR
 |d+1,b=>bif decide ((Aw b).2.2=0)||decide ((Aw b).2.1+(Aw b).2.2>b.length)then noR else
  bif !(CB (Aw b).1)then(.mk (Aw b).1 ((b.drop (Aw b).2.2).take (Aw b).2.1) [],b.drop ((Aw b).2.2+(Aw b).2.1),Fg (Aw b).1 ((b.drop (Aw b).2.2).take (Aw b).2.1))else
  match CC (A9 d) (Aw b).2.1 ((b.drop (Aw b).2.2).take (Aw b).2.1) []with
  |none=>noR
  |some ks=>(.mk (Aw b).1 [] ks,b.drop ((Aw b).2.2+(Aw b).2.1),true)
theorem UW: ∀(ks:List Tr) (acc:List Nat),bb acc ks=acc++bb [] ks
 | [],acc=>by simp[bb]
 |k::ks,acc=>by simp only[bb];rw[UW ks (acc++Aq k),UW ks ([]++Aq k)];simp
theorem QW(k:Tr)(ks:List Tr):bb [] (k::ks)=Aq k++bb [] ks:=by simp only[bb];rw[UW ks ([]++Aq k)];simp
theorem Z5(h8: ∀x∈b,x<256)(h:Aw b=(t,n,k))(hk:k≠0):n<65536∧t<256∧b=t::Ao n++b.drop k∧k=1+(Ao n).length:=by
 unfold Aw at h;split at h
 case h_2=>simp only[Prod.mk.injEq]at h;omega
 case h_1 t' c r=>
  have ht:=h8 t' (by simp);have hc:=h8 c (by simp);cases h1:decide (c<128)with
  |true=>
   have h1:=of_decide_eq_true h1;simp only[h1,decide_true,cond_true,Prod.mk.injEq]at h;obtain⟨rfl,rfl,rfl⟩:=h;have e:Ao c=[c]:=by simp only[Ao,h1,decide_true,cond_true,n8,List.cons.injEq,and_true];omega
   rw[e];exact⟨by omega,ht,rfl,rfl⟩
  |false=>
   have h1:=of_decide_eq_false h1;simp only[decide_eq_false h1,cond_false]at h;cases hA:(decide (c=129) && decide (1≤r.length))with
   |true=>
    rw[hA]at h;simp only[cond_true]at h;simp only[Bool.and_eq_true,decide_eq_true_eq]at hA;obtain⟨rfl,hr⟩:=hA;obtain⟨x,s,rfl⟩: ∃x s,r=x::s:=by cases r with|nil=>simp at hr|cons x s=>exact⟨x,s,rfl⟩
    have hx:=h8 x (by simp);simp only[List.getD_cons_zero]at h;cases h2:decide (x<128)with
    |true=>rw[h2]at h;simp only[cond_true,Prod.mk.injEq]at h;omega
    |false=>
     have h2':=of_decide_eq_false h2;rw[h2]at h;simp only[cond_false,Prod.mk.injEq]at h;obtain⟨rfl,rfl,rfl⟩:=h
     have e:Ao x=[129,x]:=by
      simp only[Ao,h2,cond_false,decide_eq_true hx,cond_true,n8,List.cons.injEq,and_true,true_and];omega
     rw[e];exact⟨by omega,ht,rfl,rfl⟩
   |false=>
    rw[hA]at h;simp only[cond_false]at h;cases hB:(decide (c=130) && decide (2≤r.length))with
    |false=>rw[hB]at h;simp only[cond_false,Prod.mk.injEq]at h;omega
    |true=>
     rw[hB]at h;simp only[cond_true]at h;simp only[Bool.and_eq_true,decide_eq_true_eq]at hB;obtain⟨rfl,hr⟩:=hB
     obtain⟨x,y,s,rfl⟩: ∃x y s,r=x::y::s:=by
      match r,hr with
      |x::y::s,_=>exact⟨x,y,s,rfl⟩
     have hx:=h8 x (by simp);have hy:=h8 y (by simp);simp only[List.getD_cons_zero,List.getD_cons_succ]at h;cases h2:decide (x*256+y<256)with
     |true=>rw[h2]at h;simp only[cond_true,Prod.mk.injEq]at h;omega
     |false=>
      have h2':=of_decide_eq_false h2;rw[h2]at h;simp only[cond_false,Prod.mk.injEq]at h;obtain⟨rfl,rfl,rfl⟩:=h
      have e:Ao (x*256+y)=[130,x,y]:=by
       have e1:n8 (hb (x*256+y) 8)=x:=by unfold n8 hb;omega
       have e2:n8 (x*256+y)=y:=by unfold n8;omega
       simp only[Ao,decide_eq_false (p:=x*256+y<128) (by omega),h2,cond_false,decide_eq_true (p:=x*256+y<65536) (by omega),cond_true,e1,e2]
      rw[e];exact⟨by omega,ht,rfl,rfl⟩
theorem bX(t:Tr):2≤(Aq t).length:=by
 cases t with
 |mk t b ks=>
  have:1≤(Ao (bb b ks).length).length:=by
   unfold Ao;cases decide ((bb b ks).length<128)<;>cases decide ((bb b ks).length<256)<;>cases decide ((bb b ks).length<65536)<;>simp
  simp only[Aq,List.length_append,List.length_singleton];omega
theorem nT(h:(Aw b).2.2≠0):2≤(Aw b).2.2:=by
 unfold Aw at h⊢;split at h
 ·rename_i t c r
  cases h1:decide (c<128)<;>cases h2:(decide (c=129) && decide (1≤r.length))<;>cases h3:(decide (c=130) && decide (2≤r.length))<;>cases h4:decide (r.getD 0 0<128)<;>cases h5:decide (r.getD 0 0*256+r.getD 1 0<256)<;>rw[h1,h2,h3]at h<;>(try rw[h4]at h)<;>(try rw[h5]at h)<;>simp at h⊢
 ·simp at h
def Qp(rd:List Nat→Tr×List Nat×Bool):Prop:=
 ∀b:List Nat,(∀x∈b,x<256)→b.length≤1048576→(rd b).1.ok∧wt (rd b).1+5*(rd b).2.1.length≤5*b.length+10∧((rd b).2.2=true→wt (rd b).1+5*(rd b).2.1.length≤5*b.length∧(rd b).2.1.length<b.length)∧ ∀x∈(rd b).2.1,x∈b
theorem JD(b:List Nat):noR.1.ok∧wt noR.1+5*noR.2.1.length≤5*b.length+10∧(noR.2.2=true→wt noR.1+5*noR.2.1.length≤5*b.length∧noR.2.1.length<b.length)∧ ∀x∈noR.2.1,x∈b:=by
 refine⟨?_,?_,?_,?_⟩
 ·simp[noR,noT,Tr.ok,oks]
 ·simp[noR,noT,wt,wts]
 ·intro h;cases h
 ·intro x hx;cases hx
theorem YA{k:Tr}(h:oks ks)(hk:k.ok):oks (ks++[k]):=by
 induction ks with
 |nil=>exact⟨hk,True.intro⟩
 |cons a ks ih=>simp only[oks]at h;simp only[List.cons_append,oks];exact⟨h.1,ih h.2⟩
theorem Ux(ks:List Tr)(k:Tr):wts (ks++[k])=wts ks+wt k:=by
 induction ks with
 |nil=>simp[wts]
 |cons a ks ih=>simp only[List.cons_append,wts,ih];omega
theorem dK(t:Tr):10≤wt t:=by cases t;simp only[wt];omega
theorem Uy: ∀ks:List Tr,10*ks.length≤wts ks
 | []=>by simp[wts]
 |k::ks=>by have:=dK k;have:=Uy ks;simp only[wts,List.length_cons];omega
theorem ZB{rd:List Nat→Tr×List Nat×Bool}(h:Qp rd): ∀(n:Nat) (b:List Nat) (acc ks:List Tr),(∀x∈b,x<256)→b.length≤1048576→oks acc→CC rd n b acc=some ks→oks ks∧wts ks≤wts acc+5*b.length
 |n,[],acc,ks,_,_,ho,hk=>by
  cases n<;>(simp only[CC,Option.some.injEq]at hk;subst hk;exact⟨ho,by simp⟩)
 |0,x::r,acc,ks,_,_,_,hk=>by simp[CC]at hk
 |n+1,x::r,acc,ks,h8,hm,ho,hk=>by
  simp only[CC]at hk;obtain⟨g1,_,g3,g4⟩:=h (x::r) h8 hm;cases hc:(!(rd (x::r)).2.2||decide (acc.length=20))with
  |true=>rw[hc]at hk;simp at hk
  |false=>
   rw[hc]at hk;simp only[Bool.or_eq_false_iff,Bool.not_eq_false']at hc;obtain⟨g5,g6⟩:=g3 hc.1;obtain⟨f1,f2⟩:=ZB h n _ _ ks (fun y hy=>h8 y (g4 y hy)) (by omega) (YA ho g1) hk;rw[Ux]at f2;exact⟨f1,by omega⟩
theorem HK(h:n+k≤b.length):((b.drop k).take n).length=n∧(b.drop (k+n)).length=b.length-(k+n):=by
 rw[List.length_take,List.length_drop,List.length_drop];omega
theorem Yy{ok:Bool}(h8: ∀x∈b,x<256)(hm:b.length≤1048576)(h:n+k≤b.length)(hk:2≤k):
 (Tr.mk tg ((b.drop k).take n) []).ok∧wt (Tr.mk tg ((b.drop k).take n) [])+5*(b.drop (k+n)).length≤5*b.length+10∧(ok=true→wt (Tr.mk tg ((b.drop k).take n) [])+5*(b.drop (k+n)).length≤5*b.length∧(b.drop (k+n)).length<b.length)∧ ∀x∈b.drop (k+n),x∈b:=by
 obtain⟨l1,l2⟩:=HK h;refine⟨?_,?_,fun _=>⟨?_,?_⟩,fun x hx=>List.mem_of_mem_drop hx⟩
 ·simp only[Tr.ok,oks,l1,List.length_nil];exact⟨fun x hx=>h8 x (List.mem_of_mem_drop (List.mem_of_mem_take hx)),by omega,by omega,True.intro⟩
 ·simp only[wt,wts,l1,l2];omega
 ·simp only[wt,wts,l1,l2];omega
 ·omega
theorem YM(hm:b.length≤1048576)(h:n+k≤b.length)(hk:2≤k)(ho:oks ks)(hw:wts ks≤5*n):
 (Tr.mk tg [] ks).ok∧wt (Tr.mk tg [] ks)+5*(b.drop (k+n)).length≤5*b.length+10∧(true=true→wt (Tr.mk tg [] ks)+5*(b.drop (k+n)).length≤5*b.length∧(b.drop (k+n)).length<b.length)∧ ∀x∈b.drop (k+n),x∈b:=by
 obtain⟨l1,l2⟩:=HK h;have hl:=Uy ks;refine⟨?_,?_,fun _=>⟨?_,?_⟩,fun x hx=>List.mem_of_mem_drop hx⟩
 ·simp only[Tr.ok,List.length_nil];exact⟨fun x hx=>(by cases hx),by omega,by omega,ho⟩
 ·simp only[wt,List.length_nil,l2];omega
 ·simp only[wt,List.length_nil,l2];omega
 ·omega
theorem Rz: ∀f,Qp (A9 f)
 |0=>fun b _ _=>by simp only[A9];exact JD b
 |f+1=>fun b h8 hm=>by
  simp only[A9];have hs:=nT (b:=b);obtain⟨⟨tg,n,k⟩,hh⟩: ∃z,Aw b=z:=⟨_,rfl⟩
  rw[hh]at hs⊢;simp only at hs⊢;cases hc:(decide (k=0)||decide (n+k>b.length))with
  |true=>simp only[cond_true];exact JD b
  |false=>
   simp only[Bool.or_eq_false_iff,decide_eq_false_iff_not]at hc;have hle:n+k≤b.length:=by omega
   simp only[cond_false];cases hmd:CB tg with
   |false=>simp only[Bool.not_false,cond_true];exact Yy h8 hm hle (hs hc.1)
   |true=>
    simp only[Bool.not_true,cond_false];cases hk:CC (A9 f) n ((b.drop k).take n) []with
    |none=>exact JD b
    |some ks=>
     obtain⟨l1,_⟩:=HK hle;obtain⟨f1,f2⟩:=ZB (Rz f) n _ [] ks (fun x hx=>h8 x (List.mem_of_mem_drop (List.mem_of_mem_take hx))) (by omega) True.intro hk;rw[l1]at f2;exact YM hm hle (hs hc.1) f1 (by simpa[wts] using f2)
def isNil(l:List Nat):Bool:=decide (l.length=0)
def rdT(b:List Nat):Tr×Int:=bif decide (b.length>2048)then(noT,4)else bif (A9 8 b).2.2 && isNil (A9 8 b).2.1 then((A9 8 b).1,0)else(noT,2)
theorem I3(h8: ∀x∈b,x<256)(hm:b.length≤1048576):(rdT b).1.ok:=by
 have h1:=(Rz 8 b h8 hm).1;have h2:=(JD b).1;unfold rdT;cases decide (b.length>2048)<;>cases (A9 8 b).2.2 && isNil (A9 8 b).2.1<;>first|exact h1|exact h2
theorem Nc{b:Nat}(h:b<256)(w:World):(convert 5 3 (.int .u8 (b:Nat))).run prog w= .ok (.int .i64 (b:Nat)) w:=by
 have e:IntKind.i64.wrap (b:Int)=(b:Int):=Ah (by omega) (by omega)
 go_simp
theorem Rp{v:Nat}(hv:v<65536)(hu:v*256=u)(p q:Operand)(w:World):(do eqGuard .shl 3 p q (.int .i64 (v:Nat)) (.int .u64 8);binOp .shl 3 (.int .i64 (v:Nat)) (.int .u64 8):Sem Value).run prog w= .ok (.int .i64 ((u:Nat):Int)) w:=by
 subst hu;have e:IntKind.i64.wrap ((v:Int)*256)=(v:Int)*256:=Ah (by omega) (by omega)
 go_simp
 try omega
theorem nH(v b:Nat)(hv:v<65536)(hb:b<256):bits .or .i64 ((v*256:Nat):Int) (b:Int)=((v*256+b:Nat):Int):=by
 have h:(BitVec.ofInt 64 ((v*256:Nat):Int)|||BitVec.ofInt 64 (b:Int)).toNat=v*256+b:=by
  rw[BitVec.toNat_or,BitVec.toNat_ofInt,BitVec.toNat_ofInt];have h1:(((v*256:Nat):Int) %((2^64:Nat):Int)).toNat=v*256:=by omega
  have h2:((b:Int) %((2^64:Nat):Int)).toNat=b:=by omega
  rw[h1,h2];have:=Nat.two_pow_add_eq_or_of_lt (i:=8) (b:=b) (by omega) v;rw[Nat.mul_comm v 256];exact this.symm
 show IntKind.i64.wrap ((BitVec.ofInt 64 ((v*256:Nat):Int)|||BitVec.ofInt 64 (b:Int)).toNat:Int)=_;rw[h];exact Ah (by omega) (by omega)
theorem Sb{v b z:Nat}(hv:v<65536)(hb:b<256)(hu:v*256=u)(hz:u+b=z)(p q:Operand)(w:World):(do eqGuard .or 3 p q (.int .i64 (u:Nat)) (.int .i64 (b:Nat));binOp .or 3 (.int .i64 (u:Nat)) (.int .i64 (b:Nat)):Sem Value).run prog w= .ok (.int .i64 ((z:Nat):Int)) w:=by
 subst hu;subst hz;have h:=nH v b hv hb;rw[Int.natCast_add,Int.natCast_mul]at h
 go_simp
 exact h
theorem Z3(hv:AO w v b.length 1 (b.map b8) S)(hl:b.length<2)(_hm:b.length≤1048576):Calls prog 99 #[v] w fun e w'=>e= .returned (.tuple #[.int .i64 (0:Nat),.int .i64 (0:Nat),.int .i64 (0:Nat)])∧Bw w w':=by
 go_enter func99,ntmps99
 refine Fy ?_
 refine CU ?_;refine K8 ?_;iterate 8 refine k_k ?_
 exact AG (AD (BX results99 (AF rfl) (AF rfl) (AF rfl)) fun _ _ hr=>⟨rfl,hr.1⟩)
theorem nP{c:Nat}(hv:AO w v (t::c::r).length 1 ((t::c::r).map b8) S)(hc:c<256)(ht:t<256)(h:c<128)(hm:r.length≤1048576):Calls prog 99 #[v] w fun e w'=>e= .returned (.tuple #[.int .i64 (t:Nat),.int .i64 (c:Nat),.int .i64 (2:Nat)])∧Bw w w':=by
 go_enter func99,ntmps99
 refine Fy ?_
 refine CU ?_;refine FU ?_;iterate 6 refine k_k ?_
 refine Fb ?_;refine IL ?_;refine JU ?_;iterate 7 refine k_k ?_
 refine K8 ?_;iterate 6 refine k_k ?_
 refine ND ?_;refine JW ?_;refine HS ?_;refine k_k ?_;refine Fb ?_;refine IL ?_;iterate 4 refine k_k ?_
 exact AG (AD (BX results99 (AF rfl) (AF rfl) (AF rfl)) fun _ _ hr=>⟨rfl,hr.1⟩)
theorem nO{c:Nat}(hv:AO w v (t::c::r).length 1 ((t::c::r).map b8) S)(hc:c<256)(_ht:t<256)(h:c=128)(hm:r.length≤1048576):Calls prog 99 #[v] w fun e w'=>e= .returned (.tuple #[.int .i64 (0:Nat),.int .i64 (0:Nat),.int .i64 (0:Nat)])∧Bw w w':=by
 go_enter func99,ntmps99
 refine Fy ?_
 refine CU ?_;refine FU ?_;iterate 6 refine k_k ?_
 refine Fb ?_;refine IL ?_;refine JU ?_;iterate 7 refine k_k ?_
 refine HP ?_;iterate 6 refine k_k ?_
 refine K8 ?_;refine Cz ?_;refine k_3 ?_;iterate 2 refine k_k ?_
 refine k_0 ?_;refine ET ?_;iterate 2 refine k_3 ?_
 iterate 10 refine k_k ?_
 exact AG (AD (BX results99 (AF rfl) (AF rfl) (AF rfl)) fun _ _ hr=>⟨rfl,hr.1⟩)
theorem nM{c:Nat}(hv:AO w v (t::c::r).length 1 ((t::c::r).map b8) S)(hc:c<256)(_ht:t<256)(h:130<c)(hm:r.length≤1048576):Calls prog 99 #[v] w fun e w'=>e= .returned (.tuple #[.int .i64 (0:Nat),.int .i64 (0:Nat),.int .i64 (0:Nat)])∧Bw w w':=by
 go_enter func99,ntmps99
 refine Fy ?_
 refine CU ?_;refine FU ?_;iterate 6 refine k_k ?_
 refine Fb ?_;refine IL ?_;refine JU ?_;iterate 7 refine k_k ?_
 refine HP ?_;iterate 6 refine k_k ?_
 refine HP ?_;refine Cz ?_;refine Kq ?_;iterate 2 refine k_k ?_
 refine k_0 ?_;refine ET ?_;iterate 2 refine k_3 ?_
 iterate 10 refine k_k ?_
 exact AG (AD (BX results99 (AF rfl) (AF rfl) (AF rfl)) fun _ _ hr=>⟨rfl,hr.1⟩)
theorem Tl{c:Nat}(hv:AO w v (t::c::r).length 1 ((t::c::r).map b8) S)(hc:c<256)(_ht:t<256)(h:128<c)(h2:c≤130)(hl:r.length+128<c)(hm:r.length≤1048576):Calls prog 99 #[v] w fun e w'=>e= .returned (.tuple #[.int .i64 (0:Nat),.int .i64 (0:Nat),.int .i64 (0:Nat)])∧Bw w w':=by
 go_enter func99,ntmps99
 refine Fy ?_
 refine CU ?_;refine FU ?_;iterate 6 refine k_k ?_
 refine Fb ?_;refine IL ?_;refine JU ?_;iterate 7 refine k_k ?_
 refine HP ?_;iterate 6 refine k_k ?_
 refine HP ?_;refine Cz ?_;refine ES ?_;iterate 2 refine k_k ?_
 refine k_0 ?_;refine ET ?_;refine k_s (by first|exact Ev.skip (fun _=>rfl)|exact BE (c:=(2+((c:Int)-128))) rfl (fun _=>rfl) rfl rfl (by rw[Ah (by omega) (by omega)])) ?_;refine k_s (by first|exact Ev.skip (fun _=>rfl)|exact BM (p:=true) rfl (fun _=>rfl) rfl rfl (decide_eq_true (by simp only[List.length_cons];omega))) ?_;iterate 10 refine k_k ?_
 exact AG (AD (BX results99 (AF rfl) (AF rfl) (AF rfl)) fun _ _ hr=>⟨rfl,hr.1⟩)
theorem nR{x:Nat}(hv:AO w v (t::129::x::r).length 1 ((t::129::x::r).map b8) S)(ht:t<256)(hx:x<256)(hm:r.length≤1048576):Calls prog 99 #[v] w fun e w'=>e= .returned (.tuple #[.int .i64 ((bif decide (x<128)then 0 else t:Nat):Nat),.int .i64 ((bif decide (x<128)then 0 else x:Nat):Nat),.int .i64 ((bif decide (x<128)then 0 else 3:Nat):Nat)])∧Bw w w':=by
 have hc:129<256:=by decide
 have hcut:AO w (Ay 2 3 1 v) 1 1 [b8 x] S:=by have:=Iw (lo:=2) (hi:=3) hv (by decide) (by simp only[List.length_cons];omega);exact this
 obtain⟨q1,h_q1⟩: ∃p,decide (x<128)=p:=⟨_,rfl⟩
 have h_q1':=(CL x 128).trans h_q1;rw[h_q1]
 go_enter func99,ntmps99
 refine A4 ?_;cases q1<;>
 (
  iterate 10 refine k_k ?_
  refine CU ?_;refine FU ?_;iterate 6 refine k_k ?_
  refine Fb ?_;refine IL ?_;refine k_s (by exact Bu (c:=1) rfl gg rfl rfl (by decide)) ?_;iterate 7 refine k_k ?_
  refine Gv ?_;iterate 6 refine k_k ?_
  refine Gv ?_;refine Cz ?_;refine Ko ?_;iterate 2 refine k_k ?_
  refine k_0 ?_;refine ET ?_;refine k_s (by first|exact Ev.skip (fun _=>rfl)|exact BE (c:=((3:Nat):Int)) rfl (fun _=>rfl) rfl rfl (by rw[Ah (by omega) (by omega)];omega)) ?_;refine PW ?_;iterate 10 refine k_k ?_
  refine Pw ?_;refine k_s (by exact Fa (a:=2) (b:=3) (v':=Ay (2) (3) 1 v) rfl gg rfl underlying23 sizeOf5 (AW hv) rfl rfl (by decide) (by simp only[List.length_cons];omega) rfl) ?_;refine k_s (by exact BU rfl gg rfl underlying23 (AW hcut)) ?_;iterate 3 refine k_k ?_
  refine Br 2 ?_;refine Ch ?_
  refine K0 ?_;iterate 8 refine k_k ?_
  refine k_s (by exact Bc (k:=0) rfl gg rfl rfl underlying23 sizeOf5 (AW hcut) (by decide) (by decide)) ?_;refine k_s (by exact Cb rfl gg rfl underlying5 rfl (AW hcut) (rfl)) ?_;iterate 4 refine k_k ?_
  refine Pp ?_;refine k_k ?_;refine Pf ?_;refine k_s (by exact AK rfl gg rfl rfl (fun w=>Sb (v:=0) (u:=0) (z:=x) (by decide) hx rfl (by omega) _ _ w)) ?_;iterate 3 refine k_k ?_
  refine Pv ?_;iterate 4 refine k_k ?_
  refine Gv ?_;iterate 3 refine k_k ?_
  refine As ?_;refine CN ?_
  refine k_s (by exact BM rfl gg rfl rfl h_q1') ?_;refine Cz ?_;refine k_s (by first|exact Ev.skip (fun _=>rfl)|exact Ag (p:=false) rfl (fun _=>rfl) rfl rfl (by decide)) ?_;iterate 2 refine k_0 ?_
  refine k_3 ?_;refine Eo ?_;iterate 2 refine k_k ?_
  first
  |(
   iterate 7 refine k_k ?_
   exact AG (AD (BX results99 (AF rfl) (AF rfl) (AF rfl)) fun _ _ hr=>⟨rfl,hr.1⟩)
   )
  |(
   iterate 5 refine k_k ?_
   refine ND ?_;refine JW ?_;refine HS ?_;iterate 2 refine k_k ?_
   refine Pw ?_;iterate 4 refine k_k ?_
   exact AG (AD (BX results99 (AF rfl) (AF rfl) (AF rfl)) fun _ _ hr=>⟨rfl,hr.1⟩)
   )
 )
theorem nQ{x y:Nat}(hv:AO w v (t::130::x::y::r).length 1 ((t::130::x::y::r).map b8) S)(ht:t<256)(hx:x<256)(hy:y<256)(hm:r.length≤1048576):Calls prog 99 #[v] w fun e w'=>e= .returned (.tuple #[.int .i64 ((bif decide (x*256+y<256)then 0 else t:Nat):Nat),.int .i64 ((bif decide (x*256+y<256)then 0 else x*256+y:Nat):Nat),.int .i64 ((bif decide (x*256+y<256)then 0 else 4:Nat):Nat)])∧Bw w w':=by
 have hc:130<256:=by decide
 have hcut:AO w (Ay 2 4 1 v) 2 1 [b8 x,b8 y] S:=by have:=Iw (lo:=2) (hi:=4) hv (by decide) (by simp only[List.length_cons];omega);exact this
 obtain⟨q1,h_q1⟩: ∃p,decide (x*256+y<128)=p:=⟨_,rfl⟩
 obtain⟨q2,h_q2⟩: ∃p,decide (x*256+y<256)=p:=⟨_,rfl⟩
 have h_q1':=(CL (x*256+y) 128).trans h_q1;have h_q2':=(CL (x*256+y) 256).trans h_q2;rw[h_q2]
 go_enter func99,ntmps99
 refine A4 ?_;cases q1<;>cases q2<;>
 (
  iterate 10 refine k_k ?_
  refine CU ?_;refine FU ?_;iterate 6 refine k_k ?_
  refine Fb ?_;refine IL ?_;refine k_s (by exact Bu (c:=2) rfl gg rfl rfl (by decide)) ?_;iterate 7 refine k_k ?_
  refine Gv ?_;iterate 6 refine k_k ?_
  refine Gv ?_;refine Cz ?_;refine Ko ?_;iterate 2 refine k_k ?_
  refine k_0 ?_;refine ET ?_;refine k_s (by first|exact Ev.skip (fun _=>rfl)|exact BE (c:=((4:Nat):Int)) rfl (fun _=>rfl) rfl rfl (by rw[Ah (by omega) (by omega)];omega)) ?_;refine PW ?_;iterate 10 refine k_k ?_
  refine TM ?_;refine k_s (by exact Fa (a:=2) (b:=4) (v':=Ay (2) (4) 1 v) rfl gg rfl underlying23 sizeOf5 (AW hv) rfl rfl (by decide) (by simp only[List.length_cons];omega) rfl) ?_;refine k_s (by exact BU rfl gg rfl underlying23 (AW hcut)) ?_;iterate 3 refine k_k ?_
  refine Br 3 ?_;refine Ch ?_
  refine K0 ?_;iterate 8 refine k_k ?_
  refine k_s (by exact Bc (k:=0) rfl gg rfl rfl underlying23 sizeOf5 (AW hcut) (by decide) (by decide)) ?_;refine k_s (by exact Cb rfl gg rfl underlying5 rfl (AW hcut) (rfl)) ?_;iterate 4 refine k_k ?_
  refine Pp ?_;refine k_k ?_;refine Pf ?_;refine k_s (by exact AK rfl gg rfl rfl (fun w=>Sb (v:=0) (u:=0) (z:=x) (by decide) hx rfl (by omega) _ _ w)) ?_;iterate 3 refine k_k ?_
  refine Pv ?_;iterate 4 refine k_k ?_
  refine K0 ?_;iterate 8 refine k_k ?_
  refine k_s (by exact Bc (k:=1) rfl gg rfl rfl underlying23 sizeOf5 (AW hcut) (by decide) (by decide)) ?_;refine k_s (by exact Cb rfl gg rfl underlying5 rfl (AW hcut) (rfl)) ?_;iterate 4 refine k_k ?_
  refine k_s (by exact AK rfl gg rfl rfl (fun w=>Rp (v:=x) (u:=x*256) (by omega) rfl _ _ w)) ?_;refine k_k ?_;refine k_s (by exact B1 rfl gg rfl (fun w=>Nc hy w)) ?_;refine k_s (by exact AK rfl gg rfl rfl (fun w=>Sb (v:=x) (u:=x*256) (z:=x*256+y) (by omega) hy rfl rfl _ _ w)) ?_;iterate 3 refine k_k ?_
  refine Pu ?_;iterate 4 refine k_k ?_
  refine Gv ?_;iterate 3 refine k_k ?_
  refine As ?_;refine CN ?_
  refine k_s (by exact BM rfl gg rfl rfl h_q1') ?_;refine Cz ?_;refine k_s (by first|exact Ev.skip (fun _=>rfl)|exact Ag (p:=true) rfl (fun _=>rfl) rfl rfl (by decide)) ?_;iterate 2 refine k_0 ?_
  refine k_s (by first|exact Ev.skip (fun _=>rfl)|exact BM rfl (fun _=>rfl) rfl rfl h_q2') ?_;refine Eo ?_;iterate 2 refine k_k ?_
  first
  |(
   iterate 7 refine k_k ?_
   refine AG ?_;refine AD (BX results99 (AF rfl) (AF rfl) (AF rfl)) ?_;intro ρ w' hr
   (first|exact⟨rfl,hr.1⟩|(exfalso;have g1:=of_decide_eq_true h_q1;have g2:=of_decide_eq_false h_q2;omega))
   )
  |(
   iterate 5 refine k_k ?_
   refine ND ?_;refine JW ?_;refine HS ?_;iterate 2 refine k_k ?_
   refine TM ?_;iterate 4 refine k_k ?_
   refine AG ?_;refine AD (BX results99 (AF rfl) (AF rfl) (AF rfl)) ?_;intro ρ w' hr
   (first|exact⟨rfl,hr.1⟩|(exfalso;have g1:=of_decide_eq_true h_q1;have g2:=of_decide_eq_false h_q2;omega))
   )
 )
theorem nL(hv:AO w v b.length 1 (b.map b8) S)(h8: ∀x∈b,x<256)(hm:b.length≤1048576):Calls prog 99 #[v] w fun e w'=>e= .returned (.tuple #[.int .i64 ((Aw b).1:Nat),.int .i64 ((Aw b).2.1:Nat),.int .i64 ((Aw b).2.2:Nat)])∧Bw w w':=by
 match b,hv,h8,hm with
 | [],hv,_,_=>exact Z3 w hv (by simp) (by simp)
 | [t],hv,_,_=>exact Z3 w hv (by simp) (by simp)
 |t::c::r,hv,h8,hm=>
  have ht:=h8 t (by simp);have hc:=h8 c (by simp);simp only[List.length_cons]at hm;by_cases h1:c<128
  ·have e:Aw (t::c::r)=(t,c,2):=by simp only[Aw,decide_eq_true h1,cond_true]
   rw[e];exact nP w hv hc ht h1 (by omega)
  ·have e:Aw (t::c::r)=bif decide (c=129) && decide (1≤r.length)then(bif decide (r.getD 0 0<128)then(0,0,0)else(t,r.getD 0 0,3))else
    bif decide (c=130) && decide (2≤r.length)then(bif decide (r.getD 0 0*256+r.getD 1 0<256)then(0,0,0)else(t,r.getD 0 0*256+r.getD 1 0,4))else(0,0,0):=by
    simp only[Aw,decide_eq_false h1,cond_false]
   rw[e];by_cases h2:c=129
   ·subst h2
    match r,hv,h8,hm with
    | [],hv,_,hm=>exact Tl w hv hc ht (by decide) (by decide) (by simp) (by simp)
    |x::r,hv,h8,hm=>
     have hx:=h8 x (by simp);have:=nR w hv ht hx (by simp only[List.length_cons]at hm;omega);have h5:decide (1≤(x::r).length)=true:=decide_eq_true (by simp);rw[h5,List.getD_cons_zero];cases hq:decide (x<128)<;>rw[hq]at this<;>exact this
   ·by_cases h3:c=130
    ·subst h3
     match r,hv,h8,hm with
     | [],hv,_,hm=>exact Tl w hv hc ht (by decide) (by decide) (by simp) (by simp)
     | [x],hv,_,hm=>exact Tl w hv hc ht (by decide) (by decide) (by simp) (by simp)
     |x::y::r,hv,h8,hm=>
      have hx:=h8 x (by simp);have hy:=h8 y (by simp);have:=nQ w hv ht hx hy (by simp only[List.length_cons]at hm;omega);have h5:decide (2≤(x::y::r).length)=true:=decide_eq_true (by simp);rw[h5,List.getD_cons_succ,List.getD_cons_zero,List.getD_cons_zero];cases hq:decide (x*256+y<256)<;>rw[hq]at this<;>exact this
    ·rw[decide_eq_false h2,decide_eq_false h3]
     by_cases h4:c=128
     ·exact nO w hv hc ht h4 (by omega)
     ·exact nM w hv hc ht (by omega) (by omega)
theorem oL{o:Oper}{t:TypeId}{e e':TypeId}{id size:Nat}{D:Dat}(ho:o.op= .call {callee:= .builtin .len,args:= #[x],argTypes:= #[t]})(hgd:AQ ops o s)(hx:AE s x= .d id)(hm:s.mem id=some (.row n size e' D))
 (hu:P.underlying t=some (.slice e)):Ev P ops w0 o s ⟨.v (.int .i64 (n:Nat)),[],[],[],[id]⟩:=by
 refine Ev.run _ _ hgd fun ρ S w hb hR=> ?_
 have e1:=AI s ρ x;rw[hx]at e1;obtain⟨xs,h1,h2,h3⟩:=relon_get hR hm (List.mem_singleton.2 rfl);obtain⟨ao,cap,h4,_⟩:=DX h3 h1;simp only[SV.c]at e1;rw[h4]at e1;simp[execOp,ho,resolve,invoke,builtin,e1,Builtin.len_,run_underlying hu,SV.c,goInt]
theorem qj:prog.built 61 []=some #[.int .i64 0,.slice none 0 0,.slice none 0 0]:=by kernel_rfl
theorem bk(t:Int):prog.built 61 [(0,.int .i64 t)]=some #[.int .i64 t,.slice none 0 0,.slice none 0 0]:=by kernel_rfl
theorem IA{w:World}:Ae w0 w (.agg #[.int .i64 0,.slice none 0 0,.slice none 0 0]) (AR noT):=by
 refine⟨fun _=>False,⟨[.int .i64 0,.slice none 0 0,.slice none 0 0],rfl,?_⟩,fun k hk=>hk.elim⟩;simp only[noT,DN,DNs];exact⟨_,_,[],rfl,⟨none,0,rfl,Nat.le_refl _,rfl,.inl rfl⟩,⟨none,0,rfl,Nat.le_refl _,rfl,.inl rfl⟩,rfl⟩
theorem YL{w:World}(j:Nat){t:Int}(hr:Rel w0 ρ s w)(hn:ks.length=n)(h2:s.mem j=some (.row n 3 61 (QF ks))):
 Ae w0 w (.agg #[.int .i64 t,.slice none 0 0,(ρ j).val]) (AR (.mk t [] ks)):=by
 subst hn;obtain⟨hb,S,hR⟩:=hr;obtain⟨ys,f1,f2,f3⟩:=hR.good j _ h2;refine⟨fun k=>w0.heap.size≤k∧k<w.heap.size,⟨[.int .i64 t,.slice none 0 0,(ρ j).val],rfl,?_⟩,fun k hk=>hk⟩;simp only[DN]
 have key: ∀{m:Nm} {n size:Nat} {ty:TypeId} {l:List Value},EC w w0.heap.size m n size ty l→l.length=n*size→AO w m.val n size l (fun k=>w0.heap.size≤k∧k<w.heap.size):=by
  intro m n size ty l h hl;have hs:=DX h hl;rcases h with⟨g1,g2⟩|⟨off,cap,cur,fz,g1,g2,g3,_⟩
  ·obtain⟨ao,cap,a1,a2,a3,a4⟩:=hs
   refine⟨ao,cap,a1,a2,a3,.inl ?_⟩;subst g2;exact List.eq_nil_of_length_eq_zero (by simpa using hl)
  ·exact Hq hs fun k hk=>by subst hk;exact⟨g2,(Array.getElem?_eq_some_iff.1 g3).1⟩
 exact⟨_,_,ys,rfl,⟨none,0,rfl,Nat.le_refl _,rfl,.inl rfl⟩,key f3 f1,LX (fun k hk=>⟨hR.fr j k (by rw[h2];rfl) hk,hR.lt j k (by rw[h2];rfl) hk⟩) f2⟩
def rdV:Nat→Value→List Nat→Value
 |0,_,_=> .slice none 0 0
 |f+1,v,b=>bif decide ((Aw b).2.2=0)||decide ((Aw b).2.1+(Aw b).2.2>b.length)then .slice none 0 0 else
  bif !(CB (Aw b).1)then Ay ((Aw b).2.2+(Aw b).2.1) b.length 1 v else
  match CC (A9 f) (Aw b).2.1 ((b.drop (Aw b).2.2).take (Aw b).2.1) []with
  |none=> .slice none 0 0
  |some _=>Ay ((Aw b).2.2+(Aw b).2.1) b.length 1 v
theorem Sj{w:World}:AO w (.slice none 0 0) 0 1 [] S:=⟨none,0,rfl,Nat.le_refl _,rfl,.inl rfl⟩
theorem N8{w:World}{j:Nat}(hv:AO w v b.length 1 (b.map b8) S)(hj:j≤b.length):AO w (Ay j b.length 1 v) (b.drop j).length 1 ((b.drop j).map b8) S:=by
 have:=Iw (lo:=j) (hi:=b.length) hv hj (Nat.le_refl _);rw[Nat.mul_one,Nat.mul_one,List.take_of_length_le (by simp),←List.map_drop]at this;rw[List.length_drop];exact this
theorem PE{w:World}(hv:AO w v b.length 1 (b.map b8) S)(h:n+k≤b.length):AO w (Ay k (k+n) 1 v) ((b.drop k).take n).length 1 (((b.drop k).take n).map b8) S:=by
 have:=Iw (lo:=k) (hi:=k+n) hv (by omega) (by omega);rw[Nat.mul_one,Nat.mul_one,Nat.add_sub_cancel_left,←List.map_drop,←List.map_take]at this;rw[(HK h).1];exact this
theorem Om{w:World}{S:Nat→Prop}: ∀(f:Nat) {v:Value} {b:List Nat},AO w v b.length 1 (b.map b8) S→AO w (rdV f v b) (A9 f b).2.1.length 1 ((A9 f b).2.1.map b8) S
 |0,v,b,_=>Sj
 |f+1,v,b,hv=>by
  simp only[rdV,A9];obtain⟨⟨tg,n,k⟩,hh⟩: ∃z,Aw b=z:=⟨_,rfl⟩
  rw[hh];simp only;cases hc:(decide (k=0)||decide (n+k>b.length))with
  |true=>exact Sj
  |false=>
   simp only[Bool.or_eq_false_iff,decide_eq_false_iff_not]at hc;simp only[cond_false];cases CB tg with
   |false=>simp only[Bool.not_false,cond_true];exact N8 hv (by omega)
   |true=>
    simp only[Bool.not_true,cond_false];cases CC (A9 f) n ((b.drop k).take n) []with
    |none=>exact Sj
    |some ks=>exact N8 hv (by omega)
theorem mU(rd:List Nat→Tr×List Nat×Bool)(n:Nat)(acc:List Tr):CC rd n [] acc=some acc:=by cases n<;>simp[CC]
theorem ZA{l:List Nat}(hl:0<l.length)(n:Nat)(acc:List Tr):CC rd (n+1) l acc=bif !(rd l).2.2||decide (acc.length=20)then none else CC rd n (rd l).2.1 (acc++[(rd l).1]):=by
 cases l with
 |nil=>simp at hl
 |cons x r=>simp only[CC]
def cm(f:Nat):Prop:= ∀(v:Value) (b:List Nat) (S:Nat→Prop) (d:Nat) (w:World),d+f=9→AO w v b.length 1 (b.map b8) S→(∀x∈b,x<256)→b.length≤1048576→
    Calls prog 52 #[v,.int .i64 (d:Nat)] w fun e w'=> ∃v',e= .returned (.tuple #[v',rdV f v b,.bool (A9 f b).2.2])∧Ae w w' v' (AR (A9 f b).1)∧Bw w w'
theorem WQ(hv:AO w v b.length 1 (b.map b8) S)(h8: ∀x∈b,x<256)(hbl:b.length≤1048576)(hh:Aw b=(tg,n,k))(_hb6:n<65536∧k≤4∧tg<256∧d≤9)(hk:k=0):Calls prog 52 #[v,.int .i64 (d:Nat)] w fun e w'=> ∃v',e= .returned (.tuple #[v',.slice none 0 0,.bool false])∧Ae w w' v' (AR (noT))∧Bw w w':=by
 go_enter func52,ntmps52
 refine Kl ?_
 refine Kc ?_
 refine k_s (by exact Ag (p:=true) rfl gg rfl rfl (decide_eq_true (by omega))) ?_;refine FP ?_
 refine ET ?_;refine Mx ?_;refine k_3 ?_;iterate 2 refine k_k ?_
 refine k_0 ?_;refine Kh ?_
 refine JV ?_;refine M8 ?_;iterate 3 refine k_k ?_
 refine AG ?_;refine AD (BX results52 (Am rfl rfl underlying61 rfl sizeOf61 rfl) (AF rfl) (AF rfl)) ?_;intro ρ w' hr;refine⟨_,rfl,?_,hr.1⟩;exact IA
theorem WP(hv:AO w v b.length 1 (b.map b8) S)(h8: ∀x∈b,x<256)(hbl:b.length≤1048576)(hh:Aw b=(tg,n,k))(hb6:n<65536∧k≤4∧tg<256∧d≤9)(hk:k≠0)(hn:n+k>b.length):Calls prog 52 #[v,.int .i64 (d:Nat)] w fun e w'=> ∃v',e= .returned (.tuple #[v',.slice none 0 0,.bool false])∧Ae w w' v' (AR (noT))∧Bw w w':=by
 go_enter func52,ntmps52
 refine Kl ?_
 refine Kc ?_
 refine NA ?_;refine FP ?_
 refine ET ?_;refine Mx ?_;refine Kq ?_;iterate 2 refine k_k ?_
 refine k_0 ?_;refine Kh ?_
 refine JV ?_;refine M8 ?_;iterate 3 refine k_k ?_
 refine AG ?_;refine AD (BX results52 (Am rfl rfl underlying61 rfl sizeOf61 rfl) (AF rfl) (AF rfl)) ?_;intro ρ w' hr;refine⟨_,rfl,?_,hr.1⟩;exact IA
theorem gy(hv:AO w v b.length 1 (b.map b8) S)(h8: ∀x∈b,x<256)(hbl:b.length≤1048576)(hh:Aw b=(tg,n,k))(hb6:n<65536∧k≤4∧tg<256∧d≤9)(hk:k≠0)(hn:n+k≤b.length)(hd:8<d):Calls prog 52 #[v,.int .i64 (d:Nat)] w fun e w'=> ∃v',e= .returned (.tuple #[v',.slice none 0 0,.bool false])∧Ae w w' v' (AR (noT))∧Bw w w':=by
 go_enter func52,ntmps52
 refine Kl ?_
 refine Kc ?_
 refine NA ?_;refine FP ?_
 refine ET ?_;refine Mx ?_;refine ES ?_;iterate 2 refine k_k ?_
 refine k_0 ?_;refine Kq ?_;iterate 5 refine k_k ?_
 refine JV ?_;refine M8 ?_;iterate 3 refine k_k ?_
 refine AG ?_;refine AD (BX results52 (Am rfl rfl underlying61 rfl sizeOf61 rfl) (AF rfl) (AF rfl)) ?_;intro ρ w' hr;refine⟨_,rfl,?_,hr.1⟩;exact IA
theorem gx(hv:AO w v b.length 1 (b.map b8) S)(h8: ∀x∈b,x<256)(hbl:b.length≤1048576)(hh:Aw b=(tg,n,k))(hb6:n<65536∧k≤4∧tg<256∧d≤9)(hk:k≠0)(hn:n+k≤b.length)(hd:d≤8)(hm:CB tg=false):Calls prog 52 #[v,.int .i64 (d:Nat)] w fun e w'=> ∃v',e= .returned (.tuple #[v',Ay (k+n) b.length 1 v,.bool (Fg tg ((b.drop k).take n))])∧Ae w w' v' (AR (.mk tg ((b.drop k).take n) []))∧Bw w w':=by
 have hin:=PE hv hn;have hil:=(HK hn).1;obtain⟨L,hL⟩: ∃L,(b.drop k).take n=L:=⟨_,rfl⟩
 rw[hL]at hin hil;have hL8: ∀x∈L,x<256:=fun x hx=>h8 x (List.mem_of_mem_drop (List.mem_of_mem_take (hL▸hx)))
 rw[hL]
 go_enter func52,ntmps52
 refine Kl ?_
 refine Kc ?_
 refine NA ?_;refine FP ?_
 refine ET ?_;refine Mx ?_;refine ES ?_;iterate 2 refine k_k ?_
 refine k_0 ?_;refine ES ?_;iterate 10 refine k_k ?_
 refine IP ?_;refine ZT ?_;iterate 3 refine k_k ?_
 refine IP ?_;refine Zc ?_;iterate 6 refine k_k ?_
 refine k_s (by exact A6 (cells:= #[.int .i64 (tg:Nat),.slice none 0 0,.slice none 0 0]) rfl gg rfl (bk _)) ?_;refine Em ?_;refine ZI ?_;iterate 5 refine k_k ?_
 refine k_s (by exact Ad (v:= .bool false) rfl gg rfl (eo func91) (fun w' hb=>by have:=S4 (tg:Int) w';rw[hm]at this;exact this)) ?_;iterate 6 refine k_k ?_
 refine k_s (by exact Cs [] rfl rfl gg rfl (eo func63) (n:=L.length) (size:=1) (l:=L.map b8) (by simp) (fun ρ S w' hb hR=>Nl w' (A5 hin hb) (by omega))) ?_;refine Kw ?_;refine k_s (by exact Bh (vl:=[.d 53]) [12,53] rfl gg rfl rfl rfl sizeOf23 rfl (fun ρ S w' _ hR=>by have hh:=Cf (id:=53) hR (by simp) rfl;exact⟨hh.1,by simp[SV.cs,SV.c,hh.2]⟩) rfl (by simp)) ?_;iterate 3 refine k_k ?_
 refine Pl ?_;iterate 3 refine k_k ?_
 refine k_s (by exact Ad (v:= .bool (Fg tg L)) rfl gg rfl (eo func92) (fun w' hb=>br (bs:=L) (tg:Int) w' (A5 hin hb) (by omega) hL8)) ?_;refine ZI ?_;iterate 3 refine k_k ?_
 refine AG ?_;refine AD (BX results52 (Am rfl rfl underlying61 rfl sizeOf61 rfl) (AF rfl) (AF rfl)) ?_;intro ρ w' hr;refine⟨_,rfl,?_,hr.1⟩;have:=Gl (t:=(tg:Int)) (b:=L) 53 hr rfl;simpa[SV.c,SV.cs] using this
theorem gq{f':Nat}{K:Option (List Tr)}(hv:AO w v b.length 1 (b.map b8) S)(h8: ∀x∈b,x<256)(hbl:b.length≤1048576)(hh:Aw b=(tg,n,k))(hb6:n<65536∧k≤4∧tg<256∧d≤9)(hk:k≠0)(hn:n+k≤b.length)(hd:d≤8)(hm:CB tg=true)(hih:cm f')(hdf:d+1+f'=9)(hK0:CC (A9 f') n ((b.drop k).take n) []=K):Calls prog 52 #[v,.int .i64 (d:Nat)] w fun e w'=> ∃v',e= .returned (.tuple #[v',(match K with|none=> .slice none 0 0|some _=>Ay (k+n) b.length 1 v),.bool K.isSome])∧Ae w w' v' (AR (match K with|none=>noT|some ks=> .mk tg [] ks))∧Bw w w':=by
 have hin:=PE hv hn;have hil:=(HK hn).1;obtain⟨L,hL⟩: ∃L,(b.drop k).take n=L:=⟨_,rfl⟩
 rw[hL]at hin hil;have hL8: ∀x∈L,x<256:=fun x hx=>h8 x (List.mem_of_mem_drop (List.mem_of_mem_take (hL▸hx)))
 rw[hL]at hK0;have hK:=hK0;clear hK0
 go_enter func52,ntmps52
 refine Kl ?_
 refine Kc ?_
 refine NA ?_;refine FP ?_
 refine ET ?_;refine Mx ?_;refine ES ?_;iterate 2 refine k_k ?_
 refine k_0 ?_;refine ES ?_;iterate 10 refine k_k ?_
 refine IP ?_;refine ZT ?_;iterate 3 refine k_k ?_
 refine IP ?_;refine Zc ?_;iterate 6 refine k_k ?_
 refine k_s (by exact A6 (cells:= #[.int .i64 (tg:Nat),.slice none 0 0,.slice none 0 0]) rfl gg rfl (bk _)) ?_;refine Em ?_;refine Pq ?_;iterate 5 refine k_k ?_
 refine k_s (by exact Ad (v:= .bool true) rfl gg rfl (eo func91) (fun w' hb=>by have:=S4 (tg:Int) w';rw[hm]at this;exact this)) ?_;iterate 6 refine k_k ?_
 refine Bo (α:={x:Nat×(Nat×List Nat)×Value×List Tr // x.2.2.2.length=x.1∧x.1≤20∧x.2.1.2.length≤x.2.1.1∧x.2.1.2.length≤1048576∧(∀y∈x.2.1.2,y<256)∧AO w x.2.2.1 x.2.1.2.length 1 (x.2.1.2.map b8) S∧CC (A9 f') x.2.1.1 x.2.1.2 x.2.2.2=K}) (fun(x:{x:Nat×(Nat×List Nat)×Value×List Tr // x.2.2.2.length=x.1∧x.1≤20∧x.2.1.2.length≤x.2.1.1∧x.2.1.2.length≤1048576∧(∀y∈x.2.1.2,y<256)∧AO w x.2.2.1 x.2.1.2.length 1 (x.2.1.2.map b8) S∧CC (A9 f') x.2.1.1 x.2.1.2 x.2.2.2=K}) f=>⟨[.v (f 0),.v (.int .i64 (d:Nat)),.v (f 2),.v (f 3),.p 4 0,.v (f 5),.v (f 6),.v (.int .i64 (tg:Nat)),.v (f 8),.v (f 9),.v x.1.2.2.1,.v (Ay (k+n) b.length 1 v),.p 12 0,.v (f 13),.v (f 14),.v (f 15),.v (f 16),.v (f 17),.v (f 18),.v (f 19),.v (f 20),.v (f 21),.v (f 22),.v (f 23),.v (f 24),.v (f 25),.v (f 26),.v (f 27),.v (f 28),.v (f 29),.v (f 30),.v (f 31),.v (f 32),.v (f 33),.v (f 34),.v (f 35),.v (f 36),.v (f 37),.v (f 38),.v (f 39),.v (f 40),.v (f 41),.v (f 42),.v (f 43),.v (f 44),.v (f 45),.v (f 46),.v (f 47),.v (f 48),.v (f 49),.v (f 50),.v (f 51),.v (f 52),.v (f 53),.v (f 54),.v (f 55),.v (f 56),.v (f 57),.v (f 58),.v (f 59),.v (f 60),.v (f 61),.v (f 62),.v (f 63),.v (f 64),.v (f 65),.v (f 66),.v (f 67),.v (f 68),.v (f 69),.v (f 70),.v (f 71),.v (f 72),.v (f 73),.v (f 74),.v (f 75),.v (f 76),.v (f 77),.v (f 78),.v (f 79),.v (f 80),.v (f 81),.v (f 82),.v (f 83),.v (f 84),.v (f 85),.v (f 86),.v (f 87)],AJ [(900,.row x.1.1 3 61 (QF x.1.2.2.2)),(12,.cells [.v (.int .i64 (tg:Nat)),.v (.slice none 0 0),.d 900] 61),(4,.cells [.v (.int .i64 0),.v (.slice none 0 0),.v (.slice none 0 0)] 61)]⟩) (fun x=>x.1.2.1.1) ?_ (⟨(0,(n,L),Ay k (k+n) 1 v,[]),rfl,Nat.zero_le _,by show L.length≤n;omega,by show L.length≤1048576;omega,hL8,hin,hK⟩) ?_
 ·rintro⟨⟨i,⟨m,l⟩,v',acc⟩,hacc,hi,hlm,hl6,hl8,hv',hgo⟩ f
  simp only at hacc hi hlm hl6 hl8 hv' hgo;obtain⟨q,h_q⟩: ∃q,decide (l.length>0)=q:=⟨_,rfl⟩
  have h_q':=(Cr l.length 0).trans h_q;refine CN ?_
  refine k_s (by exact BU rfl gg rfl underlying23 (AW hv')) ?_;refine Kz ?_;refine k_k ?_;cases q
  ·refine k_k ?_
   have hK1:K=some acc:=by rw[←hgo,List.eq_nil_of_length_eq_zero (by have:=of_decide_eq_false h_q;omega:l.length=0),mU]
   refine As ?_;refine Ch ?_
   refine Pl ?_;refine k_k ?_;refine Pq ?_;iterate 3 refine k_k ?_
   refine AG ?_;refine AD (BX results52 (Am rfl rfl underlying61 rfl sizeOf61 rfl) (AF rfl) (AF rfl)) ?_;intro ρ w' hr;first|(subst hK0;exact⟨_,rfl,IA,hr.1⟩)|(subst hK1;refine⟨_,rfl,?_,hr.1⟩;have:=YL (t:=(tg:Int)) (ks:=acc) (n:=i) 900 hr hacc rfl;simpa[SV.c,SV.cs] using this)
  ·refine k_k ?_
   obtain⟨m,rfl⟩: ∃j,m=j+1:=⟨m-1,by have:=of_decide_eq_true h_q;omega⟩
   have hfit:=Rz f' l hl8 hl6;obtain⟨q2,h_q2⟩: ∃q,(A9 f' l).2.2=q:=⟨_,rfl⟩
   obtain⟨q3,h_q3⟩: ∃q,decide (i=20)=q:=⟨_,rfl⟩
   have h_q3':=(CM i 20).trans h_q3;cases q2<;>cases q3<;>
   (
    iterate 4 refine k_k ?_
    refine Em ?_;iterate 9 refine k_k ?_
    refine Px ?_;refine k_s (by first|exact DL (D:=AR (A9 f' l).1) (ys:=[rdV f' v' l,.bool true]) [] rfl rfl gg rfl (eo func52) (fun ρ S w' hb _=>by have:=hih _ _ _ (d+1) w' (by omega) (A5 hv' hb) hl8 hl6;rw[h_q2]at this;exact this)|exact DL (D:=AR (A9 f' l).1) (ys:=[rdV f' v' l,.bool false]) [] rfl rfl gg rfl (eo func52) (fun ρ S w' hb _=>by have:=hih _ _ _ (d+1) w' (by omega) (A5 hv' hb) hl8 hl6;rw[h_q2]at this;exact this)) ?_;iterate 4 refine k_k ?_
    refine Pq ?_;iterate 9 refine k_k ?_
    refine Zh ?_;refine Zf ?_;refine k_s (by first|exact Ev.skip (fun _=>rfl)|exact oL rfl (fun _=>rfl) rfl rfl underlying59) ?_;refine k_s (by first|exact Ev.skip (fun _=>rfl)|exact Ag rfl (fun _=>rfl) rfl rfl h_q3') ?_;iterate 2 refine k_k ?_
    first
    |(
     refine k_k ?_;have hK0:K=none:=by rw[←hgo,ZA (of_decide_eq_true h_q),h_q2,hacc,h_q3];rfl
     iterate 2 refine k_k ?_
     refine JV ?_;refine Pq ?_;iterate 3 refine k_k ?_
     refine AG ?_;refine AD (BX results52 (Am rfl rfl underlying61 rfl sizeOf61 rfl) (AF rfl) (AF rfl)) ?_;intro ρ w' hr;first|(subst hK0;exact⟨_,rfl,IA,hr.1⟩)|(subst hK1;refine⟨_,rfl,?_,hr.1⟩;have:=YL (t:=(tg:Int)) (ks:=acc) (n:=i) 900 hr hacc rfl;simpa[SV.c,SV.cs] using this)
     )
    |(
     iterate 3 refine k_k ?_
     refine Mv ?_;refine P1 ?_;refine Pl ?_;refine k_s (by exact Ty (n:=3) (l:=[.fn (AN 0) (.d 67),.fn (AN 1) (.d 67),.fn (AN 2) (.d 67)]) [67] rfl rfl gg rfl (fun ρ S w' hR=>DC _) rfl rfl qw) ?_;refine k_s (by exact af (id:=900) (ys:=83) (n:=i) (k:=1) (k':=1) (size:=3) (QF (acc++[(A9 f' l).1])) [900,83,67] rfl rfl gg rfl rfl rfl rfl rfl (Nat.le_refl _) underlying59 aj (by decide) (by simp only[maxLen];omega) (by omega) (by simp) (by simp) (fun ρ S w' hR=>by obtain⟨c,h1,h2⟩:=Cd (id:=67) hR (by simp) rfl;exact(fn3 h1 (CS h2)).2▸HB h2) (fun ρ S w' xs hb hR hxs=>by obtain⟨c,h1,h2⟩:=Cd (id:=67) hR (by simp) rfl;rw[(fn3 h1 (CS h2)).2];exact dC (Ur (fun k hk=>⟨67,by simp,rfl,hk⟩) h2) (LX (fun k hk=>⟨900,by simp,rfl,hk⟩) hxs))) ?_;refine Mv ?_;refine k_s (by exact Bh (vl:=[.d 84]) [12,84] rfl gg rfl rfl rfl sizeOf59 rfl (fun ρ S w' _ hR=>by have hh:=Cf (id:=84) hR (by simp) rfl;exact⟨hh.1,by simp[SV.cs,SV.c,hh.2]⟩) rfl (by simp)) ?_;refine k_k ?_;refine⟨⟨(i+1,(m,(A9 f' l).2.1),rdV f' v' l,acc++[(A9 f' l).1]),by simp[hacc],by show i+1≤20;have:=of_decide_eq_false h_q3;omega,by show(A9 f' l).2.1.length≤m;have:=(hfit.2.2.1 h_q2).2;omega,by show(A9 f' l).2.1.length≤1048576;have:=(hfit.2.2.1 h_q2).2;omega,fun y hy=>hl8 y (hfit.2.2.2 y hy),Om f' hv',?_⟩,by show m<m+1;omega,?_⟩
     ·show CC (A9 f') m (A9 f' l).2.1 (acc++[(A9 f' l).1])=K
      rw[ZA (of_decide_eq_true h_q),h_q2,hacc,h_q3]at hgo;exact hgo
     exact(Ar (fun i=>i==1||i==4||i==7||i==10||i==11||i==12) [83,13,67]).trans2 (fun f=>Dk 84 900 (by decide) rfl)
     )
   )
 ·refine(Ar (fun i=>i==1||i==4||i==7||i==10||i==11||i==12) []).trans2 (fun f=> ?_)
  refine(N1 900 3 61 (QF []) (fun w=>by trivial) (m':=[(12,.cells [.v (.int .i64 (tg:Nat)),.v (.slice none 0 0),.d 900] 61),(4,.cells [.v (.int .i64 0),.v (.slice none 0 0),.v (.slice none 0 0)] 61)]) rfl rfl (fun ρ _=>rfl) (fun ρ hv=> ?_));simp[JG,BQ,Blk.sim,SV.cs,SV.c,hv,Bg]
theorem Z2(h8: ∀x∈b,x<256):(Aw b).2.1<65536∧(Aw b).2.2≤4∧(Aw b).1<256:=by
 obtain⟨⟨tg,n,k⟩,hh⟩: ∃z,Aw b=z:=⟨_,rfl⟩
 by_cases hk:k=0
 ·subst hk
  have:Aw b=(0,0,0):=by
   unfold Aw at hh⊢;split at hh
   ·rename_i t c r
    cases h1:decide (c<128)<;>cases h2:(decide (c=129) && decide (1≤r.length))<;>cases h3:(decide (c=130) && decide (2≤r.length))<;>rw[h1,h2,h3]at hh<;>cases h4:decide (r.getD 0 0<128)<;>cases h5:decide (r.getD 0 0*256+r.getD 1 0<256)<;>(try rw[h4]at hh)<;>(try rw[h5]at hh)<;>simp at hh⊢
   ·rfl
  rw[this];decide
 ·obtain⟨h1,h2,_,h3⟩:=Z5 h8 hh hk
  have:(Ao n).length≤3:=pO h1;rw[hh];exact⟨h1,by show k≤4;omega,h2⟩
theorem Ry: ∀f,cm f
 |0=>fun v b S d w hd hv h8 hbl=>by
  obtain⟨g1,g2,g3⟩:=Z2 h8;obtain⟨⟨tg,n,k⟩,hh⟩: ∃z,Aw b=z:=⟨_,rfl⟩
  rw[hh]at g1 g2 g3;have hb6:n<65536∧k≤4∧tg<256∧d≤9:=⟨g1,g2,g3,by omega⟩
  simp only[rdV,A9];by_cases hk:k=0
  ·exact WQ w hv h8 hbl hh hb6 hk
  ·by_cases hn:n+k>b.length
   ·exact WP w hv h8 hbl hh hb6 hk hn
   ·exact gy w hv h8 hbl hh hb6 hk (by omega) (by omega)
 |f+1=>fun v b S d w hd hv h8 hbl=>by
  obtain⟨g1,g2,g3⟩:=Z2 h8;obtain⟨⟨tg,n,k⟩,hh⟩: ∃z,Aw b=z:=⟨_,rfl⟩
  rw[hh]at g1 g2 g3;have hb6:n<65536∧k≤4∧tg<256∧d≤9:=⟨g1,g2,g3,by omega⟩
  simp only[rdV,A9,hh];by_cases hk:k=0
  ·rw[decide_eq_true hk];exact WQ w hv h8 hbl hh hb6 hk
  ·rw[decide_eq_false hk]
   by_cases hn:n+k>b.length
   ·rw[decide_eq_true hn];exact WP w hv h8 hbl hh hb6 hk hn
   ·rw[decide_eq_false hn]
    simp only[Bool.or_self,cond_false];cases hm:CB tg with
    |false=>exact gx w hv h8 hbl hh hb6 hk (by omega) (by omega) hm
    |true=>
     obtain⟨K,hK⟩: ∃K,CC (A9 f) n ((b.drop k).take n) []=K:=⟨_,rfl⟩
     have:=gq w hv h8 hbl hh hb6 hk (by omega) (by omega) hm (Ry f) (by omega) hK;simp only[Bool.not_true,cond_false];rw[hK];cases K<;>exact this
theorem sN(hv:AO w v b.length 1 (b.map b8) S)(_h8: ∀x∈b,x<256)(hbl:b.length≤1048576)(hl:b.length>2048):Calls prog 25 #[v] w fun e w'=> ∃v',e= .returned (.tuple #[v',.int .i64 4])∧Ae w w' v' (AR (noT))∧Bw w w':=by
 go_enter func25,ntmps25
 refine Kl ?_
 refine CU ?_;refine Pk ?_;iterate 4 refine k_k ?_
 refine JV ?_;refine M8 ?_;iterate 2 refine k_k ?_
 refine AG ?_;refine AD (Av results25 (Am rfl rfl underlying61 rfl sizeOf61 rfl) (AF rfl)) ?_;intro ρ w' hr;refine⟨_,rfl,?_,hr.1⟩;exact IA
theorem sM(hv:AO w v b.length 1 (b.map b8) S)(h8: ∀x∈b,x<256)(hbl:b.length≤1048576){t:Tr}(hl:b.length≤2048)(hz:A9 8 b=(t,r,false)):Calls prog 25 #[v] w fun e w'=> ∃v',e= .returned (.tuple #[v',.int .i64 2])∧Ae w w' v' (AR (noT))∧Bw w w':=by
 have hrs:=Om 8 hv;rw[hz]at hrs
 go_enter func25,ntmps25
 refine Kl ?_
 refine CU ?_;refine FS ?_;iterate 6 refine k_k ?_
 refine k_s (by exact DL (D:=AR t) (ys:=[rdV 8 v b,.bool false]) [] rfl rfl gg rfl (eo func52) (fun ρ S w' hb _=>by have:=Ry 8 _ _ _ 1 w' rfl (A5 hv hb) h8 hbl;rw[hz]at this;exact this)) ?_;iterate 4 refine k_k ?_
 refine Em ?_;refine k_8 ?_;iterate 9 refine k_k ?_
 refine k_0 ?_;refine TN ?_;refine Kh ?_
 refine JV ?_;refine k_8 ?_;iterate 2 refine k_k ?_
 refine AG ?_;refine AD (Av results25 (Am rfl rfl underlying61 rfl sizeOf61 rfl) (AF rfl)) ?_;intro ρ w' hr;refine⟨_,rfl,?_,hr.1⟩;exact IA
theorem sL(hv:AO w v b.length 1 (b.map b8) S)(h8: ∀x∈b,x<256)(hbl:b.length≤1048576){t:Tr}(hl:b.length≤2048)(hz:A9 8 b=(t,r,true))(hr0:r.length>0):Calls prog 25 #[v] w fun e w'=> ∃v',e= .returned (.tuple #[v',.int .i64 2])∧Ae w w' v' (AR (noT))∧Bw w w':=by
 have hrs:=Om 8 hv;rw[hz]at hrs
 go_enter func25,ntmps25
 refine Kl ?_
 refine CU ?_;refine FS ?_;iterate 6 refine k_k ?_
 refine Zm ?_;iterate 4 refine k_k ?_
 refine Em ?_;refine k_8 ?_;iterate 9 refine k_k ?_
 refine k_0 ?_;refine TN ?_;refine Kq ?_;iterate 5 refine k_k ?_
 refine JV ?_;refine k_8 ?_;iterate 2 refine k_k ?_
 refine AG ?_;refine AD (Av results25 (Am rfl rfl underlying61 rfl sizeOf61 rfl) (AF rfl)) ?_;intro ρ w' hr;refine⟨_,rfl,?_,hr.1⟩;exact IA
theorem sK(hv:AO w v b.length 1 (b.map b8) S)(h8: ∀x∈b,x<256)(hbl:b.length≤1048576){t:Tr}(hl:b.length≤2048)(hz:A9 8 b=(t,r,true))(hr0:r.length=0):Calls prog 25 #[v] w fun e w'=> ∃v',e= .returned (.tuple #[v',.int .i64 0])∧Ae w w' v' (AR (t))∧Bw w w':=by
 have hrs:=Om 8 hv;rw[hz]at hrs
 go_enter func25,ntmps25
 refine Kl ?_
 refine CU ?_;refine FS ?_;iterate 6 refine k_k ?_
 refine Zm ?_;iterate 4 refine k_k ?_
 refine Em ?_;refine k_8 ?_;iterate 9 refine k_k ?_
 refine k_0 ?_;refine TN ?_;refine ES ?_;iterate 6 refine k_k ?_
 refine Pl ?_;refine k_8 ?_;iterate 2 refine k_k ?_
 refine AG ?_;refine AD (Av results25 (Am rfl rfl underlying61 rfl sizeOf61 rfl) (AF rfl)) ?_;intro ρ w' hr;exact⟨_,rfl,Hs 13 hr rfl,hr.1⟩
theorem Uk(hv:AO w v b.length 1 (b.map b8) S)(h8: ∀x∈b,x<256)(hbl:b.length≤1048576):Calls prog 25 #[v] w fun e w'=> ∃v',e= .returned (.tuple #[v',.int .i64 (rdT b).2])∧Ae w w' v' (AR ((rdT b).1))∧Bw w w':=by
 unfold rdT;by_cases hl:b.length>2048
 ·rw[decide_eq_true hl];exact sN w hv h8 hbl hl
 ·rw[decide_eq_false hl]
  obtain⟨⟨t,r,ok⟩,hz⟩: ∃z,A9 8 b=z:=⟨_,rfl⟩
  rw[hz];cases ok with
  |false=>exact sM w hv h8 hbl (by omega) hz
  |true=>
   by_cases hr:r.length>0
   ·have e:isNil r=false:=decide_eq_false (by omega)
    simp only[e];exact sL w hv h8 hbl (by omega) hz hr
   ·have e:isNil r=true:=decide_eq_true (by omega)
    simp only[e];exact sK w hv h8 hbl (by omega) hz (by omega)
end Go.Proofs.YtafbhakmkbehiaaGreatDoor
