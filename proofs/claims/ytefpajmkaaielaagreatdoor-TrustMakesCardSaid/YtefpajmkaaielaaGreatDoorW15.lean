import Derived.Test.YtefpajmkaaielaaGreatDoorW13
open Go.Proofs.Tryz
set_option maxHeartbeats 4000000
set_option maxRecDepth 100000
namespace Go.Proofs.YtefpajmkaaielaaGreatDoor
open Go.RowKit Go.Vx
variable(w:World){ops:Array Oper}{b r:List Nat}{rd:List Nat→Tr×List Nat×Bool}{ks:List Tr}{d k n t tg u:Nat}{ρ:Nat→Nm}{S:Nat→Prop}{x:Operand}{P:Program}{s:VS}{v:Value}{w0:World}
open Go.Toll (Gw)
def Ak(b:List Nat):Nat×Nat×Nat:=
 match b with
 |t::c::r=>
  bif decide (c<128)then(t,c,2)else
  bif decide (c=129) && decide (1≤r.length)then(bif decide (r.getD 0 0<128)then(0,0,0)else(t,r.getD 0 0,3))else
  bif decide (c=130) && decide (2≤r.length)then(bif decide (r.getD 0 0*256+r.getD 1 0<256)then(0,0,0)else(t,r.getD 0 0*256+r.getD 1 0,4))else(0,0,0)
 |_=>(0,0,0)
def noT:Tr:= .mk 0 [] []
def noR:Tr×List Nat×Bool:=(noT,[],false)
def Cd(rd:List Nat→Tr×List Nat×Bool):Nat→List Nat→List Tr→Option (List Tr)
 |_,[],acc=>some acc
 |0,_::_,_=>none
 |n+1,x::r,acc=>bif !(rd (x::r)).2.2||decide (acc.length=20)then none else Cd rd n (rd (x::r)).2.1 (acc++[(rd (x::r)).1])
def BL:Nat→List Nat→Tr×List Nat×Bool
 |0,_=>noR
 |d+1,b=>bif decide ((Ak b).2.2=0)||decide ((Ak b).2.1+(Ak b).2.2>b.length)then noR else
  bif !(Cq (Ak b).1)then(.mk (Ak b).1 ((b.drop (Ak b).2.2).take (Ak b).2.1) [],b.drop ((Ak b).2.2+(Ak b).2.1),Er (Ak b).1 ((b.drop (Ak b).2.2).take (Ak b).2.1))else
  match Cd (BL d) (Ak b).2.1 ((b.drop (Ak b).2.2).take (Ak b).2.1) []with
  |none=>noR
  |some ks=>(.mk (Ak b).1 [] ks,b.drop ((Ak b).2.2+(Ak b).2.1),true)
theorem RS: ∀(ks:List Tr) (acc:List Nat),bb acc ks=acc++bb [] ks
 | [],acc=>by simp[bb]
 |k::ks,acc=>by simp only[bb];rw[RS ks (acc++AF k),RS ks ([]++AF k)];simp
theorem RR(k:Tr)(ks:List Tr):bb [] (k::ks)=AF k++bb [] ks:=by simp only[bb];rw[RS ks ([]++AF k)];simp
theorem mz(h8: ∀x∈b,x<256)(h:Ak b=(t,n,k))(hk:k≠0):n<65536∧t<256∧b=t::Am n++b.drop k∧k=1+(Am n).length:=by
 unfold Ak at h;split at h
 case h_2=>simp only[Prod.mk.injEq]at h;omega
 case h_1 t' c r=>
  have ht:=h8 t' (by simp);have hc:=h8 c (by simp);cases h1:decide (c<128)with
  |true=>
   have h1:=of_decide_eq_true h1;simp only[h1,decide_true,cond_true,Prod.mk.injEq]at h;obtain⟨rfl,rfl,rfl⟩:=h;have e:Am c=[c]:=by simp only[Am,h1,decide_true,cond_true,n8,List.cons.injEq,and_true];omega
   rw[e];exact⟨by omega,ht,rfl,rfl⟩
  |false=>
   have h1:=of_decide_eq_false h1;simp only[decide_eq_false h1,cond_false]at h;cases hA:(decide (c=129) && decide (1≤r.length))with
   |true=>
    rw[hA]at h;simp only[cond_true]at h;simp only[Bool.and_eq_true,decide_eq_true_eq]at hA;obtain⟨rfl,hr⟩:=hA;obtain⟨x,s,rfl⟩: ∃x s,r=x::s:=by cases r with|nil=>simp at hr|cons x s=>exact⟨x,s,rfl⟩
    have hx:=h8 x (by simp);simp only[List.getD_cons_zero]at h;cases h2:decide (x<128)with
    |true=>rw[h2]at h;simp only[cond_true,Prod.mk.injEq]at h;omega
    |false=>
     have h2':=of_decide_eq_false h2;rw[h2]at h;simp only[cond_false,Prod.mk.injEq]at h;obtain⟨rfl,rfl,rfl⟩:=h
     have e:Am x=[129,x]:=by
      simp only[Am,h2,cond_false,decide_eq_true hx,cond_true,n8,List.cons.injEq,and_true,true_and];omega
     rw[e];exact⟨by omega,ht,rfl,rfl⟩
   |false=>
    rw[hA]at h;simp only[cond_false]at h;cases hB:(decide (c=130) && decide (2≤r.length))with
    |false=>rw[hB]at h;simp only[cond_false,Prod.mk.injEq]at h;omega
    |true=>
     rw[hB]at h;simp only[cond_true]at h;simp only[Bool.and_eq_true,decide_eq_true_eq]at hB;obtain⟨rfl,hr⟩:=hB
     obtain⟨x,y,s,rfl⟩: ∃x y s,r=x::y::s:=by
      match r,hr with
      |x::y::s,_=>exact⟨x,y,s,rfl⟩
     have hx:=h8 x (by simp);have hy:=h8 y (by simp);simp only[List.getD_cons_zero,List.getD_cons_succ]at h;cases h2:decide (x*256+y<256)with
     |true=>rw[h2]at h;simp only[cond_true,Prod.mk.injEq]at h;omega
     |false=>
      have h2':=of_decide_eq_false h2;rw[h2]at h;simp only[cond_false,Prod.mk.injEq]at h;obtain⟨rfl,rfl,rfl⟩:=h
      have e:Am (x*256+y)=[130,x,y]:=by
       have e1:n8 (hb (x*256+y) 8)=x:=by unfold n8 hb;omega
       have e2:n8 (x*256+y)=y:=by unfold n8;omega
       simp only[Am,decide_eq_false (p:=x*256+y<128) (by omega),h2,cond_false,decide_eq_true (p:=x*256+y<65536) (by omega),cond_true,e1,e2]
      rw[e];exact⟨by omega,ht,rfl,rfl⟩
theorem Wt(hn:n<65536)(r:List Nat):Ak (t::Am n++r)=(t,n,1+(Am n).length):=by
 unfold Am;cases h1:decide (n<128)with
 |true=>
  have h1':=of_decide_eq_true h1;simp only[cond_true,List.cons_append,List.nil_append,Ak];have e:n8 n=n:=by unfold n8;omega
  rw[e,h1];rfl
 |false=>
  have h1':=of_decide_eq_false h1;cases h2:decide (n<256)with
  |true=>
   have h2':=of_decide_eq_true h2;have e:n8 n=n:=by unfold n8;omega
   simp only[cond_true,cond_false,List.cons_append,List.nil_append,Ak,List.getD_cons_zero,e,h1];rw[decide_eq_false (p:=129<128) (by decide),decide_eq_true (p:=1≤(n::r).length) (by simp)];rfl
  |false=>
   have h2':=of_decide_eq_false h2;have e1:n8 (hb n 8)*256+n8 n=n:=by unfold n8 hb;omega
   simp only[decide_eq_true hn,cond_true,cond_false,List.cons_append,List.nil_append,Ak,List.getD_cons_zero,List.getD_cons_succ,e1,h2];rw[decide_eq_false (p:=130<128) (by decide),decide_eq_true (p:=2≤(n8 (hb n 8)::n8 n::r).length) (by simp)];rfl
theorem Sa{t:Int}(h:Cq t=true∨Er t b=true):((tb t:Nat):Int)=t∧tb t<256:=by
 have:t=48∨t=160∨t=161∨t=162∨t=163∨t=1∨t=2∨t=3∨t=4∨t=6∨t=12:=by
  rcases h with h|h
  ·simp only[Cq,Bool.or_eq_true,Bool.and_eq_true,decide_eq_true_eq]at h;omega
  ·unfold Er at h
   by_cases h1:t=1
   ·omega
   by_cases h2:t=2
   ·omega
   by_cases h3:t=3
   ·omega
   by_cases h4:t=4
   ·omega
   by_cases h6:t=6
   ·omega
   by_cases h12:t=12
   ·omega
   simp[h1,h2,h3,h4,h6,h12]at h
 unfold tb;omega
theorem TK{t:Int}(h:Ag (.mk t b ks) d=true):d≤8∧((Cq t=false∧ks=[]∧Er t b=true)∨(Cq t=true∧b=[]∧ks.length≤20∧D6 ks (d+1)=false)):=by
 simp only[Ag]at h;cases h1:decide (d>8)with
 |true=>rw[h1]at h;cases h
 |false=>
  rw[h1]at h;have h1':=of_decide_eq_false h1;simp only[cond_false]at h;refine⟨by omega,?_⟩;cases h2:Cq t with
  |false=>
   rw[h2]at h;simp only[Bool.not_false,cond_true,Bool.and_eq_true,decide_eq_true_eq]at h;exact .inl ⟨rfl,List.eq_nil_of_length_eq_zero h.1,h.2⟩
  |true=>
   rw[h2]at h;simp only[Bool.not_true,cond_false]at h;cases h3:(decide (b.length>0)||decide (ks.length>20))with
   |true=>rw[h3]at h;cases h
   |false=>
    rw[h3]at h;simp only[cond_false,Bool.not_eq_true']at h;simp only[Bool.or_eq_false_iff,decide_eq_false_iff_not]at h3;exact .inr ⟨rfl,List.eq_nil_of_length_eq_zero (by omega),by omega,h⟩
theorem IU{t:Int}(hd:d≤8)(h1:Cq t=false)(h2:Er t b=true):Ag (.mk t b []) d=true:=by
 simp only[Ag,decide_eq_false (p:=d>8) (by omega),h1,h2,cond_false,Bool.not_false,cond_true,List.length_nil,decide_true,Bool.and_self]
theorem TJ{t:Int}(hd:d≤8)(h1:Cq t=true)(h2:ks.length≤20)(h3:D6 ks (d+1)=false):Ag (.mk t [] ks) d=true:=by
 simp only[Ag,decide_eq_false (p:=d>8) (by omega),h1,h3,cond_false,Bool.not_true,List.length_nil,Bool.not_false];rw[decide_eq_false (p:=(0:Nat)>0) (by omega),decide_eq_false (p:=ks.length>20) (by omega)];rfl
theorem RE(t:Int)(b:List Nat):AF (.mk t b [])=tb t::Am b.length++b:=by simp only[AF,bb];rfl
theorem qi(t:Int)(ks:List Tr):AF (.mk t [] ks)=tb t::Am (bb [] ks).length++bb [] ks:=by simp only[AF];rfl
theorem qh(t:Tr):2≤(AF t).length:=by
 cases t with
 |mk t b ks=>
  have:1≤(Am (bb b ks).length).length:=by
   unfold Am;cases decide ((bb b ks).length<128)<;>cases decide ((bb b ks).length<256)<;>cases decide ((bb b ks).length<65536)<;>simp
  simp only[AF,List.length_append,List.length_singleton];omega
theorem fj{k:Tr}(h:D6 (k::ks) d=false):Ag k d=true∧D6 ks d=false:=by
 simp only[D6,Bool.or_eq_false_iff,Bool.not_eq_false']at h;exact h
def ZT(rd:List Nat→Tr×List Nat×Bool)(d:Nat):Prop:=
 ∀(t:Tr) (r:List Nat),Ag t d=true→(AF t).length<65536→rd (AF t++r)=(t,r,true)
theorem Ve{rd:List Nat→Tr×List Nat×Bool}{d:Nat}(h:ZT rd d): ∀(ks:List Tr) (n:Nat) (acc:List Tr),D6 ks d=false→acc.length+ks.length≤20→(bb [] ks).length≤n→n<65536→Cd rd n (bb [] ks) acc=some (acc++ks)
 | [],n,acc,_,_,_,_=>by cases n<;>simp[bb,Cd]
 |k::ks,n,acc,hr,hl,hn,hm=>by
  obtain⟨h1,h2⟩:=fj hr;rw[RR]at hn⊢;rw[List.length_append]at hn;have hp:=qh k;obtain⟨m,rfl⟩: ∃m,n=m+1:=⟨n-1,by omega⟩
  obtain⟨x,y,hxy⟩: ∃x y,AF k++bb [] ks=x::y:=by
   cases hb:AF k with
   |nil=>rw[hb]at hp;simp at hp
   |cons x y=>exact⟨x,y++bb [] ks,rfl⟩
  have hrd:=h k (bb [] ks) h1 (by omega);rw[hxy]at hrd⊢;simp only[Cd,hrd];simp only[List.length_cons]at hl;rw[decide_eq_false (p:=acc.length=20) (by omega)];simp only[Bool.not_true,Bool.or_self,cond_false];rw[Ve h ks m (acc++[k]) h2 (by rw[List.length_append,List.length_singleton];omega) (by omega) (by omega)];simp
theorem TR: ∀(f d:Nat),d+f=9→ZT (BL f) d
 |0,d,hd=>fun t r h _=>by
  cases t with
  |mk t b ks=>have:=(TK h).1;omega
 |f+1,d,hd=>fun t r h hl=>by
  cases t with
  |mk tg b ks=>
   rcases(TK h).2 with⟨hm,rfl,hb⟩|⟨hm,rfl,hk,hn⟩
   ·obtain⟨ht1,ht2⟩:=Sa (t:=tg) (b:=b) (.inr hb)
    rw[RE]at hl⊢;have hbl:b.length<65536:=by simp only[List.length_append]at hl;omega
    have hh:=Wt (t:=tb tg) hbl (b++r);rw[←List.append_assoc]at hh;simp only[BL,hh]
    have e1:((tb tg::Am b.length++b++r).drop (1+(Am b.length).length))=b++r:=by
     rw[List.append_assoc,List.drop_append,List.drop_of_length_le (by simp;omega)];simp[Nat.add_comm]
    have e2:((b++r).take b.length)=b:=by simp
    have e3:((tb tg::Am b.length++b++r).drop (1+(Am b.length).length+b.length))=r:=by
     rw[←List.drop_drop,e1];simp
    rw[e1,e2,e3,ht1,hm,hb];rw[decide_eq_false (p:=1+(Am b.length).length=0) (by omega),decide_eq_false (by simp only[List.length_append,List.length_cons];omega)];rfl
   ·obtain⟨ht1,ht2⟩:=Sa (t:=tg) (b:=[]) (.inl hm)
    rw[qi]at hl⊢;have hbl:(bb [] ks).length<65536:=by simp only[List.length_append]at hl;omega
    obtain⟨X,hX⟩: ∃X,bb [] ks=X:=⟨_,rfl⟩
    have hka:=Ve (TR f (d+1) (by omega)) ks X.length [] hn (by simpa using hk) (by rw[hX];exact Nat.le_refl _) (by rw[←hX];exact hbl);rw[hX]at hbl hka⊢;have hh:=Wt (t:=tb tg) hbl (X++r);rw[←List.append_assoc]at hh;simp only[BL,hh]
    have e1:((tb tg::Am X.length++X++r).drop (1+(Am X.length).length))=X++r:=by
     rw[List.append_assoc,List.drop_append,List.drop_of_length_le (by simp;omega)];simp[Nat.add_comm]
    have e2:((X++r).take X.length)=X:=by simp
    have e3:((tb tg::Am X.length++X++r).drop (1+(Am X.length).length+X.length))=r:=by
     rw[←List.drop_drop,e1];simp
    rw[e1,e2,e3,ht1,hm,hka];rw[decide_eq_false (p:=1+(Am X.length).length=0) (by omega),decide_eq_false (by simp only[List.length_append,List.length_cons];omega)];rfl
theorem m8(h:(Ak b).2.2≠0):2≤(Ak b).2.2:=by
 unfold Ak at h⊢;split at h
 ·rename_i t c r
  cases h1:decide (c<128)<;>cases h2:(decide (c=129) && decide (1≤r.length))<;>cases h3:(decide (c=130) && decide (2≤r.length))<;>cases h4:decide (r.getD 0 0<128)<;>cases h5:decide (r.getD 0 0*256+r.getD 1 0<256)<;>rw[h1,h2,h3]at h<;>(try rw[h4]at h)<;>(try rw[h5]at h)<;>simp at h⊢
 ·simp at h
def Za(rd:List Nat→Tr×List Nat×Bool):Prop:=
 ∀b:List Nat,(∀x∈b,x<256)→b.length≤1048576→(rd b).1.ok∧wt (rd b).1+5*(rd b).2.1.length≤5*b.length+10∧((rd b).2.2=true→wt (rd b).1+5*(rd b).2.1.length≤5*b.length∧(rd b).2.1.length<b.length)∧ ∀x∈(rd b).2.1,x∈b
theorem MY(b:List Nat):noR.1.ok∧wt noR.1+5*noR.2.1.length≤5*b.length+10∧(noR.2.2=true→wt noR.1+5*noR.2.1.length≤5*b.length∧noR.2.1.length<b.length)∧ ∀x∈noR.2.1,x∈b:=by
 refine⟨?_,?_,?_,?_⟩
 ·simp[noR,noT,Tr.ok,oks]
 ·simp[noR,noT,wt,wts]
 ·intro h;cases h
 ·intro x hx;cases hx
theorem fX{k:Tr}(h:oks ks)(hk:k.ok):oks (ks++[k]):=by
 induction ks with
 |nil=>exact⟨hk,True.intro⟩
 |cons a ks ih=>simp only[oks]at h;simp only[List.cons_append,oks];exact⟨h.1,ih h.2⟩
theorem Zk(ks:List Tr)(k:Tr):wts (ks++[k])=wts ks+wt k:=by
 induction ks with
 |nil=>simp[wts]
 |cons a ks ih=>simp only[List.cons_append,wts,ih];omega
theorem Zl(t:Tr):10≤wt t:=by cases t;simp only[wt];omega
theorem R1: ∀ks:List Tr,10*ks.length≤wts ks
 | []=>by simp[wts]
 |k::ks=>by have:=Zl k;have:=R1 ks;simp only[wts,List.length_cons];omega
theorem Vg{rd:List Nat→Tr×List Nat×Bool}(h:Za rd): ∀(n:Nat) (b:List Nat) (acc ks:List Tr),(∀x∈b,x<256)→b.length≤1048576→oks acc→Cd rd n b acc=some ks→oks ks∧wts ks≤wts acc+5*b.length
 |n,[],acc,ks,_,_,ho,hk=>by
  cases n<;>(simp only[Cd,Option.some.injEq]at hk;subst hk;exact⟨ho,by simp⟩)
 |0,x::r,acc,ks,_,_,_,hk=>by simp[Cd]at hk
 |n+1,x::r,acc,ks,h8,hm,ho,hk=>by
  simp only[Cd]at hk;obtain⟨g1,_,g3,g4⟩:=h (x::r) h8 hm;cases hc:(!(rd (x::r)).2.2||decide (acc.length=20))with
  |true=>rw[hc]at hk;simp at hk
  |false=>
   rw[hc]at hk;simp only[Bool.or_eq_false_iff,Bool.not_eq_false']at hc;obtain⟨g5,g6⟩:=g3 hc.1;obtain⟨f1,f2⟩:=Vg h n _ _ ks (fun y hy=>h8 y (g4 y hy)) (by omega) (fX ho g1) hk;rw[Zk]at f2;exact⟨f1,by omega⟩
theorem IY(h:n+k≤b.length):((b.drop k).take n).length=n∧(b.drop (k+n)).length=b.length-(k+n):=by
 rw[List.length_take,List.length_drop,List.length_drop];omega
theorem kQ{ok:Bool}(h8: ∀x∈b,x<256)(hm:b.length≤1048576)(h:n+k≤b.length)(hk:2≤k):
 (Tr.mk tg ((b.drop k).take n) []).ok∧wt (Tr.mk tg ((b.drop k).take n) [])+5*(b.drop (k+n)).length≤5*b.length+10∧(ok=true→wt (Tr.mk tg ((b.drop k).take n) [])+5*(b.drop (k+n)).length≤5*b.length∧(b.drop (k+n)).length<b.length)∧ ∀x∈b.drop (k+n),x∈b:=by
 obtain⟨l1,l2⟩:=IY h;refine⟨?_,?_,fun _=>⟨?_,?_⟩,fun x hx=>List.mem_of_mem_drop hx⟩
 ·simp only[Tr.ok,oks,l1,List.length_nil];exact⟨fun x hx=>h8 x (List.mem_of_mem_drop (List.mem_of_mem_take hx)),by omega,by omega,True.intro⟩
 ·simp only[wt,wts,l1,l2];omega
 ·simp only[wt,wts,l1,l2];omega
 ·omega
theorem fk(hm:b.length≤1048576)(h:n+k≤b.length)(hk:2≤k)(ho:oks ks)(hw:wts ks≤5*n):
 (Tr.mk tg [] ks).ok∧wt (Tr.mk tg [] ks)+5*(b.drop (k+n)).length≤5*b.length+10∧(true=true→wt (Tr.mk tg [] ks)+5*(b.drop (k+n)).length≤5*b.length∧(b.drop (k+n)).length<b.length)∧ ∀x∈b.drop (k+n),x∈b:=by
 obtain⟨l1,l2⟩:=IY h;have hl:=R1 ks;refine⟨?_,?_,fun _=>⟨?_,?_⟩,fun x hx=>List.mem_of_mem_drop hx⟩
 ·simp only[Tr.ok,List.length_nil];exact⟨fun x hx=>(by cases hx),by omega,by omega,ho⟩
 ·simp only[wt,List.length_nil,l2];omega
 ·simp only[wt,List.length_nil,l2];omega
 ·omega
theorem O8: ∀f,Za (BL f)
 |0=>fun b _ _=>by simp only[BL];exact MY b
 |f+1=>fun b h8 hm=>by
  simp only[BL];have hs:=m8 (b:=b);obtain⟨⟨tg,n,k⟩,hh⟩: ∃z,Ak b=z:=⟨_,rfl⟩
  rw[hh]at hs⊢;simp only at hs⊢;cases hc:(decide (k=0)||decide (n+k>b.length))with
  |true=>simp only[cond_true];exact MY b
  |false=>
   simp only[Bool.or_eq_false_iff,decide_eq_false_iff_not]at hc;have hle:n+k≤b.length:=by omega
   simp only[cond_false];cases hmd:Cq tg with
   |false=>simp only[Bool.not_false,cond_true];exact kQ h8 hm hle (hs hc.1)
   |true=>
    simp only[Bool.not_true,cond_false];cases hk:Cd (BL f) n ((b.drop k).take n) []with
    |none=>exact MY b
    |some ks=>
     obtain⟨l1,_⟩:=IY hle;obtain⟨f1,f2⟩:=Vg (O8 f) n _ [] ks (fun x hx=>h8 x (List.mem_of_mem_drop (List.mem_of_mem_take hx))) (by omega) True.intro hk;rw[l1]at f2;exact fk hm hle (hs hc.1) f1 (by simpa[wts] using f2)
def isNil(l:List Nat):Bool:=decide (l.length=0)
def rdT(b:List Nat):Tr×Int:=bif decide (b.length>2048)then(noT,4)else bif (BL 8 b).2.2 && isNil (BL 8 b).2.1 then((BL 8 b).1,0)else(noT,2)
theorem TY{t:Tr}(h:Ag t 1=true)(hl:(AF t).length≤2048):rdT (AF t)=(t,0):=by
 have h1:=TR 8 1 rfl t [] h (by omega);rw[List.append_nil]at h1;unfold rdT;rw[decide_eq_false (by omega),h1];rfl
theorem La{t:Tr}(h:Ag t 1=true)(hl:(AF t).length≤2048):wrT t=(AF t,0):=by
 rcases Zr t with⟨e,_⟩|⟨_,e,_⟩|⟨_,_,e⟩
 ·rw[h]at e;cases e
 ·omega
 ·exact e
theorem J7(h8: ∀x∈b,x<256)(hm:b.length≤1048576):(rdT b).1.ok:=by
 have h1:=(O8 8 b h8 hm).1;have h2:=(MY b).1;unfold rdT;cases decide (b.length>2048)<;>cases (BL 8 b).2.2 && isNil (BL 8 b).2.1<;>first|exact h1|exact h2
theorem Nh{b:Nat}(h:b<256)(w:World):(convert 5 3 (.int .u8 (b:Nat))).run prog w= .ok (.int .i64 (b:Nat)) w:=by
 have e:IntKind.i64.wrap (b:Int)=(b:Int):=Af (by omega) (by omega)
 go_simp
theorem S9{v:Nat}(hv:v<65536)(hu:v*256=u):BOy .shl 3 (.int .i64 (v:Nat)) (.int .u64 8) (.int .i64 ((u:Nat):Int)):=by
 intro p q w
 subst hu;have e:IntKind.i64.wrap ((v:Int)*256)=(v:Int)*256:=Af (by omega) (by omega)
 go_simp
 try omega
theorem mp(v b:Nat)(hv:v<65536)(hb:b<256):bits .or .i64 ((v*256:Nat):Int) (b:Int)=((v*256+b:Nat):Int):=by
 have h:(BitVec.ofInt 64 ((v*256:Nat):Int)|||BitVec.ofInt 64 (b:Int)).toNat=v*256+b:=by
  rw[BitVec.toNat_or,BitVec.toNat_ofInt,BitVec.toNat_ofInt];have h1:(((v*256:Nat):Int) %((2^64:Nat):Int)).toNat=v*256:=by omega
  have h2:((b:Int) %((2^64:Nat):Int)).toNat=b:=by omega
  rw[h1,h2];have:=Nat.two_pow_add_eq_or_of_lt (i:=8) (b:=b) (by omega) v;rw[Nat.mul_comm v 256];exact this.symm
 show IntKind.i64.wrap ((BitVec.ofInt 64 ((v*256:Nat):Int)|||BitVec.ofInt 64 (b:Int)).toNat:Int)=_;rw[h];exact Af (by omega) (by omega)
theorem PS{v b z:Nat}(hv:v<65536)(hb:b<256)(hu:v*256=u)(hz:u+b=z):BOy .or 3 (.int .i64 (u:Nat)) (.int .i64 (b:Nat)) (.int .i64 ((z:Nat):Int)):=by
 intro p q w
 subst hu;subst hz;have h:=mp v b hv hb;rw[Int.natCast_add,Int.natCast_mul]at h
 go_simp
 exact h
theorem Ws(hv:AJ w v b.length 1 (b.map b8) S)(hl:b.length<2)(_hm:b.length≤1048576):CBy 129 #[v] w (.tuple #[.int .i64 (0:Nat),.int .i64 (0:Nat),.int .i64 (0:Nat)]):=by
 go_enter func129,ntmps129
 refine AO ?_;iterate 10 refine k_g ?_
 refine CQ ?_;refine M5 ?_;iterate 8 refine k_g ?_
 exact AG (AD (B9 results129 (AE rfl) (AE rfl) (AE rfl)) fun _ _ hr=>⟨rfl,hr.1⟩)
theorem m4{c:Nat}(hv:AJ w v (t::c::r).length 1 ((t::c::r).map b8) S)(hc:c<256)(ht:t<256)(h:c<128)(hm:r.length≤1048576):CBy 129 #[v] w (.tuple #[.int .i64 (t:Nat),.int .i64 (c:Nat),.int .i64 (2:Nat)]):=by
 go_enter func129,ntmps129
 refine AO ?_;iterate 10 refine k_g ?_
 refine CQ ?_;refine Iw ?_;iterate 6 refine k_g ?_
 refine HV ?_;refine HW ?_;refine Mr ?_;iterate 7 refine k_g ?_
 refine M5 ?_;iterate 6 refine k_g ?_
 refine Kr ?_;refine HY ?_;refine QP ?_;refine k_g ?_;refine HV ?_;refine HW ?_;iterate 4 refine k_g ?_
 exact AG (AD (B9 results129 (AE rfl) (AE rfl) (AE rfl)) fun _ _ hr=>⟨rfl,hr.1⟩)
theorem my{c:Nat}(hv:AJ w v (t::c::r).length 1 ((t::c::r).map b8) S)(hc:c<256)(_ht:t<256)(h:c=128)(hm:r.length≤1048576):CBy 129 #[v] w (.tuple #[.int .i64 (0:Nat),.int .i64 (0:Nat),.int .i64 (0:Nat)]):=by
 go_enter func129,ntmps129
 refine AO ?_;iterate 10 refine k_g ?_
 refine CQ ?_;refine Iw ?_;iterate 6 refine k_g ?_
 refine HV ?_;refine HW ?_;refine Mr ?_;iterate 7 refine k_g ?_
 refine Iu ?_;iterate 6 refine k_g ?_
 refine M5 ?_;iterate 2 refine k_g ?_
 refine k_3 ?_;iterate 3 refine k_g ?_
 refine Eh ?_;refine k_g ?_;iterate 2 refine k_3 ?_
 iterate 10 refine k_g ?_
 exact AG (AD (B9 results129 (AE rfl) (AE rfl) (AE rfl)) fun _ _ hr=>⟨rfl,hr.1⟩)
theorem mx{c:Nat}(hv:AJ w v (t::c::r).length 1 ((t::c::r).map b8) S)(hc:c<256)(_ht:t<256)(h:130<c)(hm:r.length≤1048576):CBy 129 #[v] w (.tuple #[.int .i64 (0:Nat),.int .i64 (0:Nat),.int .i64 (0:Nat)]):=by
 go_enter func129,ntmps129
 refine AO ?_;iterate 10 refine k_g ?_
 refine CQ ?_;refine Iw ?_;iterate 6 refine k_g ?_
 refine HV ?_;refine HW ?_;refine Mr ?_;iterate 7 refine k_g ?_
 refine Iu ?_;iterate 6 refine k_g ?_
 refine Iu ?_;iterate 2 refine k_g ?_
 refine Mt ?_;iterate 3 refine k_g ?_
 refine Eh ?_;refine k_g ?_;iterate 2 refine k_3 ?_
 iterate 10 refine k_g ?_
 exact AG (AD (B9 results129 (AE rfl) (AE rfl) (AE rfl)) fun _ _ hr=>⟨rfl,hr.1⟩)
theorem Qc{c:Nat}(hv:AJ w v (t::c::r).length 1 ((t::c::r).map b8) S)(hc:c<256)(_ht:t<256)(h:128<c)(h2:c≤130)(hl:r.length+128<c)(hm:r.length≤1048576):CBy 129 #[v] w (.tuple #[.int .i64 (0:Nat),.int .i64 (0:Nat),.int .i64 (0:Nat)]):=by
 go_enter func129,ntmps129
 refine AO ?_;iterate 10 refine k_g ?_
 refine CQ ?_;refine Iw ?_;iterate 6 refine k_g ?_
 refine HV ?_;refine HW ?_;refine Mr ?_;iterate 7 refine k_g ?_
 refine Iu ?_;iterate 6 refine k_g ?_
 refine Iu ?_;iterate 2 refine k_g ?_
 refine Hb ?_;iterate 3 refine k_g ?_
 refine Eh ?_;refine k_g ?_;refine k_s (by first|exact Ev.skip (fun _=>rfl)|exact A2 (c:=(2+((c:Int)-128))) rfl (fun _=>rfl) rfl rfl (by rw[Af (by omega) (by omega)])) ?_;refine k_s (by first|exact Ev.skip (fun _=>rfl)|exact A4 (p:=true) rfl (fun _=>rfl) rfl rfl (decide_eq_true (by simp only[List.length_cons];omega))) ?_;iterate 10 refine k_g ?_
 exact AG (AD (B9 results129 (AE rfl) (AE rfl) (AE rfl)) fun _ _ hr=>⟨rfl,hr.1⟩)
theorem m7{x:Nat}(hv:AJ w v (t::129::x::r).length 1 ((t::129::x::r).map b8) S)(ht:t<256)(hx:x<256)(hm:r.length≤1048576):CBy 129 #[v] w (.tuple #[.int .i64 ((bif decide (x<128)then 0 else t:Nat):Nat),.int .i64 ((bif decide (x<128)then 0 else x:Nat):Nat),.int .i64 ((bif decide (x<128)then 0 else 3:Nat):Nat)]):=by
 have hc:129<256:=by decide
 have hcut:AJ w (As 2 3 1 v) 1 1 [b8 x] S:=by have:=HF (lo:=2) (hi:=3) hv (by decide) (by simp only[List.length_cons];omega);exact this
 obtain⟨q1,h_q1⟩: ∃p,decide (x<128)=p:=⟨_,rfl⟩
 have h_q1':=(Cw x 128).trans h_q1;rw[h_q1]
 go_enter func129,ntmps129
 refine AO ?_;cases q1<;>
 (
  iterate 10 refine k_g ?_
  refine CQ ?_;refine Iw ?_;iterate 6 refine k_g ?_
  refine HV ?_;refine HW ?_;refine k_s (by exact CF (c:=1) rfl gg rfl rfl (by decide)) ?_;iterate 7 refine k_g ?_
  refine I2 ?_;iterate 6 refine k_g ?_
  refine I2 ?_;iterate 2 refine k_g ?_
  refine Vp ?_;iterate 3 refine k_g ?_
  refine Eh ?_;refine k_g ?_;refine k_s (by first|exact Ev.skip (fun _=>rfl)|exact A2 (c:=((3:Nat):Int)) rfl (fun _=>rfl) rfl rfl (by rw[Af (by omega) (by omega)];omega)) ?_;refine Vn ?_;iterate 10 refine k_g ?_
  refine WT ?_;refine k_s (by exact Gl (a:=2) (b:=3) (v':=As (2) (3) 1 v) rfl gg rfl underlying26 sizeOf5 (AW hv) rfl rfl (by decide) (by simp only[List.length_cons];omega) rfl) ?_;refine k_s (by exact BM rfl gg rfl underlying26 (AW hcut)) ?_;iterate 3 refine k_g ?_
  refine Ce 2 ?_;change VOk _ _ _ _ _;iterate 2 refine k_g ?_
  refine QH ?_;iterate 8 refine k_g ?_
  refine k_s (by exact BU (k:=0) rfl gg rfl rfl underlying26 sizeOf5 (AW hcut) (by decide) (by decide)) ?_;refine k_s (by exact B5 rfl gg rfl underlying5 rfl (AW hcut) (rfl)) ?_;iterate 4 refine k_g ?_
  refine WN ?_;refine k_g ?_;refine Vz ?_;refine k_s (by exact AN rfl gg rfl rfl (fun w=>PS (v:=0) (u:=0) (z:=x) (by decide) hx rfl (by omega) _ _ w)) ?_;iterate 3 refine k_g ?_
  refine WS ?_;iterate 4 refine k_g ?_
  refine I2 ?_;iterate 3 refine k_g ?_
  refine Aq ?_;change VOk _ _ _ _ _;iterate 4 refine k_g ?_
  refine k_s (by exact A4 rfl gg rfl rfl h_q1') ?_;iterate 2 refine k_g ?_
  refine k_s (by first|exact Ev.skip (fun _=>rfl)|exact Ax (p:=false) rfl (fun _=>rfl) rfl rfl (by decide)) ?_;iterate 2 refine k_g ?_
  refine k_3 ?_;iterate 3 refine k_g ?_
  first
  |(
   iterate 7 refine k_g ?_
   exact AG (AD (B9 results129 (AE rfl) (AE rfl) (AE rfl)) fun _ _ hr=>⟨rfl,hr.1⟩)
   )
  |(
   iterate 5 refine k_g ?_
   refine Kr ?_;refine HY ?_;refine QP ?_;iterate 2 refine k_g ?_
   refine WT ?_;iterate 4 refine k_g ?_
   exact AG (AD (B9 results129 (AE rfl) (AE rfl) (AE rfl)) fun _ _ hr=>⟨rfl,hr.1⟩)
   )
 )
theorem m5{x y:Nat}(hv:AJ w v (t::130::x::y::r).length 1 ((t::130::x::y::r).map b8) S)(ht:t<256)(hx:x<256)(hy:y<256)(hm:r.length≤1048576):CBy 129 #[v] w (.tuple #[.int .i64 ((bif decide (x*256+y<256)then 0 else t:Nat):Nat),.int .i64 ((bif decide (x*256+y<256)then 0 else x*256+y:Nat):Nat),.int .i64 ((bif decide (x*256+y<256)then 0 else 4:Nat):Nat)]):=by
 have hc:130<256:=by decide
 have hcut:AJ w (As 2 4 1 v) 2 1 [b8 x,b8 y] S:=by have:=HF (lo:=2) (hi:=4) hv (by decide) (by simp only[List.length_cons];omega);exact this
 obtain⟨q1,h_q1⟩: ∃p,decide (x*256+y<128)=p:=⟨_,rfl⟩
 obtain⟨q2,h_q2⟩: ∃p,decide (x*256+y<256)=p:=⟨_,rfl⟩
 have h_q1':=(Cw (x*256+y) 128).trans h_q1;have h_q2':=(Cw (x*256+y) 256).trans h_q2;rw[h_q2]
 go_enter func129,ntmps129
 refine AO ?_;cases q1<;>cases q2<;>
 (
  iterate 10 refine k_g ?_
  refine CQ ?_;refine Iw ?_;iterate 6 refine k_g ?_
  refine HV ?_;refine HW ?_;refine k_s (by exact CF (c:=2) rfl gg rfl rfl (by decide)) ?_;iterate 7 refine k_g ?_
  refine I2 ?_;iterate 6 refine k_g ?_
  refine I2 ?_;iterate 2 refine k_g ?_
  refine Vp ?_;iterate 3 refine k_g ?_
  refine Eh ?_;refine k_g ?_;refine k_s (by first|exact Ev.skip (fun _=>rfl)|exact A2 (c:=((4:Nat):Int)) rfl (fun _=>rfl) rfl rfl (by rw[Af (by omega) (by omega)];omega)) ?_;refine Vn ?_;iterate 10 refine k_g ?_
  refine V6 ?_;refine k_s (by exact Gl (a:=2) (b:=4) (v':=As (2) (4) 1 v) rfl gg rfl underlying26 sizeOf5 (AW hv) rfl rfl (by decide) (by simp only[List.length_cons];omega) rfl) ?_;refine k_s (by exact BM rfl gg rfl underlying26 (AW hcut)) ?_;iterate 3 refine k_g ?_
  refine Ce 3 ?_;change VOk _ _ _ _ _;iterate 2 refine k_g ?_
  refine QH ?_;iterate 8 refine k_g ?_
  refine k_s (by exact BU (k:=0) rfl gg rfl rfl underlying26 sizeOf5 (AW hcut) (by decide) (by decide)) ?_;refine k_s (by exact B5 rfl gg rfl underlying5 rfl (AW hcut) (rfl)) ?_;iterate 4 refine k_g ?_
  refine WN ?_;refine k_g ?_;refine Vz ?_;refine k_s (by exact AN rfl gg rfl rfl (fun w=>PS (v:=0) (u:=0) (z:=x) (by decide) hx rfl (by omega) _ _ w)) ?_;iterate 3 refine k_g ?_
  refine WS ?_;iterate 4 refine k_g ?_
  refine QH ?_;iterate 8 refine k_g ?_
  refine k_s (by exact BU (k:=1) rfl gg rfl rfl underlying26 sizeOf5 (AW hcut) (by decide) (by decide)) ?_;refine k_s (by exact B5 rfl gg rfl underlying5 rfl (AW hcut) (rfl)) ?_;iterate 4 refine k_g ?_
  refine k_s (by exact AN rfl gg rfl rfl (fun w=>S9 (v:=x) (u:=x*256) (by omega) rfl _ _ w)) ?_;refine k_g ?_;refine k_s (by exact A5 rfl gg rfl (fun w=>Nh hy w)) ?_;refine k_s (by exact AN rfl gg rfl rfl (fun w=>PS (v:=x) (u:=x*256) (z:=x*256+y) (by omega) hy rfl rfl _ _ w)) ?_;iterate 3 refine k_g ?_
  refine lE ?_;iterate 4 refine k_g ?_
  refine I2 ?_;iterate 3 refine k_g ?_
  refine Aq ?_;change VOk _ _ _ _ _;iterate 4 refine k_g ?_
  refine k_s (by exact A4 rfl gg rfl rfl h_q1') ?_;iterate 2 refine k_g ?_
  refine k_s (by first|exact Ev.skip (fun _=>rfl)|exact Ax (p:=true) rfl (fun _=>rfl) rfl rfl (by decide)) ?_;iterate 2 refine k_g ?_
  refine k_s (by first|exact Ev.skip (fun _=>rfl)|exact A4 rfl (fun _=>rfl) rfl rfl h_q2') ?_;iterate 3 refine k_g ?_
  first
  |(
   iterate 7 refine k_g ?_
   refine AG ?_;refine AD (B9 results129 (AE rfl) (AE rfl) (AE rfl)) ?_;intro ρ w' hr
   (first|exact⟨rfl,hr.1⟩|(exfalso;have g1:=of_decide_eq_true h_q1;have g2:=of_decide_eq_false h_q2;omega))
   )
  |(
   iterate 5 refine k_g ?_
   refine Kr ?_;refine HY ?_;refine QP ?_;iterate 2 refine k_g ?_
   refine V6 ?_;iterate 4 refine k_g ?_
   refine AG ?_;refine AD (B9 results129 (AE rfl) (AE rfl) (AE rfl)) ?_;intro ρ w' hr
   (first|exact⟨rfl,hr.1⟩|(exfalso;have g1:=of_decide_eq_true h_q1;have g2:=of_decide_eq_false h_q2;omega))
   )
 )
theorem mt(hv:AJ w v b.length 1 (b.map b8) S)(h8: ∀x∈b,x<256)(hm:b.length≤1048576):CBy 129 #[v] w (.tuple #[.int .i64 ((Ak b).1:Nat),.int .i64 ((Ak b).2.1:Nat),.int .i64 ((Ak b).2.2:Nat)]):=by
 match b,hv,h8,hm with
 | [],hv,_,_=>exact Ws w hv (by simp) (by simp)
 | [t],hv,_,_=>exact Ws w hv (by simp) (by simp)
 |t::c::r,hv,h8,hm=>
  have ht:=h8 t (by simp);have hc:=h8 c (by simp);simp only[List.length_cons]at hm;by_cases h1:c<128
  ·have e:Ak (t::c::r)=(t,c,2):=by simp only[Ak,decide_eq_true h1,cond_true]
   rw[e];exact m4 w hv hc ht h1 (by omega)
  ·have e:Ak (t::c::r)=bif decide (c=129) && decide (1≤r.length)then(bif decide (r.getD 0 0<128)then(0,0,0)else(t,r.getD 0 0,3))else
    bif decide (c=130) && decide (2≤r.length)then(bif decide (r.getD 0 0*256+r.getD 1 0<256)then(0,0,0)else(t,r.getD 0 0*256+r.getD 1 0,4))else(0,0,0):=by
    simp only[Ak,decide_eq_false h1,cond_false]
   rw[e];by_cases h2:c=129
   ·subst h2
    match r,hv,h8,hm with
    | [],hv,_,hm=>exact Qc w hv hc ht (by decide) (by decide) (by simp) (by simp)
    |x::r,hv,h8,hm=>
     have hx:=h8 x (by simp);have:=m7 w hv ht hx (by simp only[List.length_cons]at hm;omega);have h5:decide (1≤(x::r).length)=true:=decide_eq_true (by simp);rw[h5,List.getD_cons_zero];cases hq:decide (x<128)<;>rw[hq]at this<;>exact this
   ·by_cases h3:c=130
    ·subst h3
     match r,hv,h8,hm with
     | [],hv,_,hm=>exact Qc w hv hc ht (by decide) (by decide) (by simp) (by simp)
     | [x],hv,_,hm=>exact Qc w hv hc ht (by decide) (by decide) (by simp) (by simp)
     |x::y::r,hv,h8,hm=>
      have hx:=h8 x (by simp);have hy:=h8 y (by simp);have:=m5 w hv ht hx hy (by simp only[List.length_cons]at hm;omega);have h5:decide (2≤(x::y::r).length)=true:=decide_eq_true (by simp);rw[h5,List.getD_cons_succ,List.getD_cons_zero,List.getD_cons_zero];cases hq:decide (x*256+y<256)<;>rw[hq]at this<;>exact this
    ·rw[decide_eq_false h2,decide_eq_false h3]
     by_cases h4:c=128
     ·exact my w hv hc ht h4 (by omega)
     ·exact mx w hv hc ht (by omega) (by omega)
theorem nx{o:Oper}{t:TypeId}{e e':TypeId}{id size:Nat}{D:Dat}(ho:o.op= .call {callee:= .builtin .len,args:= #[x],argTypes:= #[t]})(hgd:AR ops o s)(hx:AC s x= .d id)(hm:s.mem id=some (.row n size e' D))
 (hu:P.underlying t=some (.slice e)):Ev P ops w0 o s ⟨.v (.int .i64 (n:Nat)),[],[],[],[id]⟩:=by
 refine Ev.run _ _ hgd fun ρ S w hb hR=> ?_
 have e1:=AH s ρ x;rw[hx]at e1;obtain⟨xs,h1,h2,h3⟩:=A6 hR hm (List.mem_singleton.2 rfl);obtain⟨ao,cap,h4,_⟩:=DL h3 h1;simp only[SV.c]at e1;rw[h4]at e1;simp[execOp,ho,resolve,invoke,builtin,e1,Builtin.len_,run_underlying hu,SV.c,goInt]
theorem rG:prog.built 108 []=some #[.int .i64 0,.slice none 0 0,.slice none 0 0]:=by kernel_rfl
theorem Yk(t:Int):prog.built 108 [(0,.int .i64 t)]=some #[.int .i64 t,.slice none 0 0,.slice none 0 0]:=by kernel_rfl
theorem GU{w:World}:BO w0 w (.agg #[.int .i64 0,.slice none 0 0,.slice none 0 0]) (AQ noT):=by
 refine⟨fun _=>False,⟨[.int .i64 0,.slice none 0 0,.slice none 0 0],rfl,?_⟩,fun k hk=>hk.elim⟩;simp only[noT,DN,DNs];exact⟨_,_,[],rfl,⟨none,0,rfl,Nat.le_refl _,rfl,.inl rfl⟩,⟨none,0,rfl,Nat.le_refl _,rfl,.inl rfl⟩,rfl⟩
theorem UP{w:World}(j:Nat){t:Int}(hr:Rel w0 ρ s w)(hn:ks.length=n)(h2:s.mem j=some (.row n 3 108 (NZ ks))):
 BO w0 w (.agg #[.int .i64 t,.slice none 0 0,(ρ j).val]) (AQ (.mk t [] ks)):=by
 subst hn;obtain⟨hb,S,hR⟩:=hr;obtain⟨ys,f1,f2,f3⟩:=hR.good j _ h2;refine⟨fun k=>w0.heap.size≤k∧k<w.heap.size,⟨[.int .i64 t,.slice none 0 0,(ρ j).val],rfl,?_⟩,fun k hk=>hk⟩;simp only[DN]
 have key: ∀{m:Nm} {n size:Nat} {ty:TypeId} {l:List Value},Ey w w0.heap.size m n size ty l→l.length=n*size→AJ w m.val n size l (fun k=>w0.heap.size≤k∧k<w.heap.size):=by
  intro m n size ty l h hl;have hs:=DL h hl;rcases h with⟨g1,g2⟩|⟨off,cap,cur,fz,g1,g2,g3,_⟩
  ·obtain⟨ao,cap,a1,a2,a3,a4⟩:=hs
   refine⟨ao,cap,a1,a2,a3,.inl ?_⟩;subst g2;exact List.eq_nil_of_length_eq_zero (by simpa using hl)
  ·exact IR hs fun k hk=>by subst hk;exact⟨g2,(Array.getElem?_eq_some_iff.1 g3).1⟩
 exact⟨_,_,ys,rfl,⟨none,0,rfl,Nat.le_refl _,rfl,.inl rfl⟩,key f3 f1,JZ (fun k hk=>⟨hR.fr j k (by rw[h2];rfl) hk,hR.lt j k (by rw[h2];rfl) hk⟩) f2⟩
def rdV:Nat→Value→List Nat→Value
 |0,_,_=> .slice none 0 0
 |f+1,v,b=>bif decide ((Ak b).2.2=0)||decide ((Ak b).2.1+(Ak b).2.2>b.length)then .slice none 0 0 else
  bif !(Cq (Ak b).1)then As ((Ak b).2.2+(Ak b).2.1) b.length 1 v else
  match Cd (BL f) (Ak b).2.1 ((b.drop (Ak b).2.2).take (Ak b).2.1) []with
  |none=> .slice none 0 0
  |some _=>As ((Ak b).2.2+(Ak b).2.1) b.length 1 v
theorem PW{w:World}:AJ w (.slice none 0 0) 0 1 [] S:=⟨none,0,rfl,Nat.le_refl _,rfl,.inl rfl⟩
theorem Lo{w:World}{j:Nat}(hv:AJ w v b.length 1 (b.map b8) S)(hj:j≤b.length):AJ w (As j b.length 1 v) (b.drop j).length 1 ((b.drop j).map b8) S:=by
 have:=HF (lo:=j) (hi:=b.length) hv hj (Nat.le_refl _);rw[Nat.mul_one,Nat.mul_one,List.take_of_length_le (by simp),←List.map_drop]at this;rw[List.length_drop];exact this
theorem T3{w:World}(hv:AJ w v b.length 1 (b.map b8) S)(h:n+k≤b.length):AJ w (As k (k+n) 1 v) ((b.drop k).take n).length 1 (((b.drop k).take n).map b8) S:=by
 have:=HF (lo:=k) (hi:=k+n) hv (by omega) (by omega);rw[Nat.mul_one,Nat.mul_one,Nat.add_sub_cancel_left,←List.map_drop,←List.map_take]at this;rw[(IY h).1];exact this
theorem MK{w:World}{S:Nat→Prop}: ∀(f:Nat) {v:Value} {b:List Nat},AJ w v b.length 1 (b.map b8) S→AJ w (rdV f v b) (BL f b).2.1.length 1 ((BL f b).2.1.map b8) S
 |0,v,b,_=>PW
 |f+1,v,b,hv=>by
  simp only[rdV,BL];obtain⟨⟨tg,n,k⟩,hh⟩: ∃z,Ak b=z:=⟨_,rfl⟩
  rw[hh];simp only;cases hc:(decide (k=0)||decide (n+k>b.length))with
  |true=>exact PW
  |false=>
   simp only[Bool.or_eq_false_iff,decide_eq_false_iff_not]at hc;simp only[cond_false];cases Cq tg with
   |false=>simp only[Bool.not_false,cond_true];exact Lo hv (by omega)
   |true=>
    simp only[Bool.not_true,cond_false];cases Cd (BL f) n ((b.drop k).take n) []with
    |none=>exact PW
    |some ks=>exact Lo hv (by omega)
theorem kw(rd:List Nat→Tr×List Nat×Bool)(n:Nat)(acc:List Tr):Cd rd n [] acc=some acc:=by cases n<;>simp[Cd]
theorem Vf{l:List Nat}(hl:0<l.length)(n:Nat)(acc:List Tr):Cd rd (n+1) l acc=bif !(rd l).2.2||decide (acc.length=20)then none else Cd rd n (rd l).2.1 (acc++[(rd l).1]):=by
 cases l with
 |nil=>simp at hl
 |cons x r=>simp only[Cd]
def ZS(f:Nat):Prop:= ∀(v:Value) (b:List Nat) (S:Nat→Prop) (d:Nat) (w:World),d+f=9→AJ w v b.length 1 (b.map b8) S→(∀x∈b,x<256)→b.length≤1048576→
    Calls prog 117 #[v,.int .i64 (d:Nat)] w fun e w'=> ∃v',e= .returned (.tuple #[v',rdV f v b,.bool (BL f b).2.2])∧BO w w' v' (AQ (BL f b).1)∧Bw w w'
theorem TQ(hv:AJ w v b.length 1 (b.map b8) S)(h8: ∀x∈b,x<256)(hbl:b.length≤1048576)(hh:Ak b=(tg,n,k))(_hb6:n<65536∧k≤4∧tg<256∧d≤9)(hk:k=0):Calls prog 117 #[v,.int .i64 (d:Nat)] w fun e w'=> ∃v',e= .returned (.tuple #[v',.slice none 0 0,.bool false])∧BO w w' v' (AQ (noT))∧Bw w w':=by
 go_enter func117,ntmps117
 refine AO ?_;iterate 9 refine k_g ?_
 refine Kj ?_;iterate 12 refine k_g ?_
 refine k_s (by exact Ax (p:=true) rfl gg rfl rfl (decide_eq_true (by omega))) ?_;iterate 3 refine k_g ?_
 refine Eh ?_;refine k_g ?_;refine Kh ?_;refine k_3 ?_;iterate 3 refine k_g ?_
 refine k_3 ?_;iterate 5 refine k_g ?_
 refine HX ?_;iterate 4 refine k_g ?_
 refine AG ?_;refine AD (B9 results117 (BN rfl rfl underlying108 rfl sizeOf108 rfl) (AE rfl) (AE rfl)) ?_;intro ρ w' hr;refine⟨_,rfl,?_,hr.1⟩;exact GU
theorem TP(hv:AJ w v b.length 1 (b.map b8) S)(h8: ∀x∈b,x<256)(hbl:b.length≤1048576)(hh:Ak b=(tg,n,k))(hb6:n<65536∧k≤4∧tg<256∧d≤9)(hk:k≠0)(hn:n+k>b.length):Calls prog 117 #[v,.int .i64 (d:Nat)] w fun e w'=> ∃v',e= .returned (.tuple #[v',.slice none 0 0,.bool false])∧BO w w' v' (AQ (noT))∧Bw w w':=by
 go_enter func117,ntmps117
 refine AO ?_;iterate 9 refine k_g ?_
 refine Kj ?_;iterate 12 refine k_g ?_
 refine M4 ?_;iterate 3 refine k_g ?_
 refine Eh ?_;refine k_g ?_;refine Kh ?_;refine Mt ?_;iterate 3 refine k_g ?_
 refine k_3 ?_;iterate 5 refine k_g ?_
 refine HX ?_;iterate 4 refine k_g ?_
 refine AG ?_;refine AD (B9 results117 (BN rfl rfl underlying108 rfl sizeOf108 rfl) (AE rfl) (AE rfl)) ?_;intro ρ w' hr;refine⟨_,rfl,?_,hr.1⟩;exact GU
theorem dS(hv:AJ w v b.length 1 (b.map b8) S)(h8: ∀x∈b,x<256)(hbl:b.length≤1048576)(hh:Ak b=(tg,n,k))(hb6:n<65536∧k≤4∧tg<256∧d≤9)(hk:k≠0)(hn:n+k≤b.length)(hd:8<d):Calls prog 117 #[v,.int .i64 (d:Nat)] w fun e w'=> ∃v',e= .returned (.tuple #[v',.slice none 0 0,.bool false])∧BO w w' v' (AQ (noT))∧Bw w w':=by
 go_enter func117,ntmps117
 refine AO ?_;iterate 9 refine k_g ?_
 refine Kj ?_;iterate 12 refine k_g ?_
 refine M4 ?_;iterate 3 refine k_g ?_
 refine Eh ?_;refine k_g ?_;refine Kh ?_;refine Hb ?_;iterate 3 refine k_g ?_
 refine Mt ?_;iterate 5 refine k_g ?_
 refine HX ?_;iterate 4 refine k_g ?_
 refine AG ?_;refine AD (B9 results117 (BN rfl rfl underlying108 rfl sizeOf108 rfl) (AE rfl) (AE rfl)) ?_;intro ρ w' hr;refine⟨_,rfl,?_,hr.1⟩;exact GU
theorem dR(hv:AJ w v b.length 1 (b.map b8) S)(h8: ∀x∈b,x<256)(hbl:b.length≤1048576)(hh:Ak b=(tg,n,k))(hb6:n<65536∧k≤4∧tg<256∧d≤9)(hk:k≠0)(hn:n+k≤b.length)(hd:d≤8)(hm:Cq tg=false):Calls prog 117 #[v,.int .i64 (d:Nat)] w fun e w'=> ∃v',e= .returned (.tuple #[v',As (k+n) b.length 1 v,.bool (Er tg ((b.drop k).take n))])∧BO w w' v' (AQ (.mk tg ((b.drop k).take n) []))∧Bw w w':=by
 have hin:=T3 hv hn;have hil:=(IY hn).1;obtain⟨L,hL⟩: ∃L,(b.drop k).take n=L:=⟨_,rfl⟩
 rw[hL]at hin hil;have hL8: ∀x∈L,x<256:=fun x hx=>h8 x (List.mem_of_mem_drop (List.mem_of_mem_take (hL▸hx)))
 rw[hL]
 go_enter func117,ntmps117
 refine AO ?_;iterate 9 refine k_g ?_
 refine Kj ?_;iterate 12 refine k_g ?_
 refine M4 ?_;iterate 3 refine k_g ?_
 refine Eh ?_;refine k_g ?_;refine Kh ?_;refine Hb ?_;iterate 3 refine k_g ?_
 refine Hb ?_;iterate 10 refine k_g ?_
 refine Mu ?_;refine WB ?_;iterate 3 refine k_g ?_
 refine Mu ?_;refine WK ?_;iterate 6 refine k_g ?_
 refine k_s (by exact Ar (cells:= #[.int .i64 (tg:Nat),.slice none 0 0,.slice none 0 0]) rfl gg rfl (Yk _)) ?_;refine k_g ?_;refine Vs ?_;iterate 5 refine k_g ?_
 refine k_s (by exact Ah (v:= .bool false) rfl gg rfl (eo func108) (fun w' hb=>by have:=Pw (tg:Int) w';rw[hm]at this;exact this)) ?_;iterate 6 refine k_g ?_
 refine k_s (by exact Cs [] rfl rfl gg rfl (eo func94) (n:=L.length) (size:=1) (l:=L.map b8) (by simp) (fun ρ S w' hb hR=>LM w' (Aa hin hb) (by omega))) ?_;refine k_g ?_;refine k_s (by exact Az (vl:=[.d 53]) [12,53] rfl gg rfl rfl rfl sizeOf26 rfl (fun ρ S w' _ hR=>by have hh:=CO (id:=53) hR (by simp) rfl;exact⟨hh.1,by simp[SV.cs,SV.c,hh.2]⟩) rfl (by simp)) ?_;iterate 7 refine k_g ?_
 refine k_s (by exact Ah (v:= .bool (Er tg L)) rfl gg rfl (eo func109) (fun w' hb=>Yn (bs:=L) (tg:Int) w' (Aa hin hb) (by omega) hL8)) ?_;refine Vs ?_;iterate 3 refine k_g ?_
 refine AG ?_;refine AD (B9 results117 (BN rfl rfl underlying108 rfl sizeOf108 rfl) (AE rfl) (AE rfl)) ?_;intro ρ w' hr;refine⟨_,rfl,?_,hr.1⟩;have:=E8 (t:=(tg:Int)) (b:=L) 53 hr rfl;simpa[SV.c,SV.cs] using this
theorem dN{f':Nat}{K:Option (List Tr)}(hv:AJ w v b.length 1 (b.map b8) S)(h8: ∀x∈b,x<256)(hbl:b.length≤1048576)(hh:Ak b=(tg,n,k))(hb6:n<65536∧k≤4∧tg<256∧d≤9)(hk:k≠0)(hn:n+k≤b.length)(hd:d≤8)(hm:Cq tg=true)(hih:ZS f')(hdf:d+1+f'=9)(hK0:Cd (BL f') n ((b.drop k).take n) []=K):Calls prog 117 #[v,.int .i64 (d:Nat)] w fun e w'=> ∃v',e= .returned (.tuple #[v',(match K with|none=> .slice none 0 0|some _=>As (k+n) b.length 1 v),.bool K.isSome])∧BO w w' v' (AQ (match K with|none=>noT|some ks=> .mk tg [] ks))∧Bw w w':=by
 have hin:=T3 hv hn;have hil:=(IY hn).1;obtain⟨L,hL⟩: ∃L,(b.drop k).take n=L:=⟨_,rfl⟩
 rw[hL]at hin hil;have hL8: ∀x∈L,x<256:=fun x hx=>h8 x (List.mem_of_mem_drop (List.mem_of_mem_take (hL▸hx)))
 rw[hL]at hK0;have hK:=hK0;clear hK0
 go_enter func117,ntmps117
 refine AO ?_;iterate 9 refine k_g ?_
 refine Kj ?_;iterate 12 refine k_g ?_
 refine M4 ?_;iterate 3 refine k_g ?_
 refine Eh ?_;refine k_g ?_;refine Kh ?_;refine Hb ?_;iterate 3 refine k_g ?_
 refine Hb ?_;iterate 10 refine k_g ?_
 refine Mu ?_;refine WB ?_;iterate 3 refine k_g ?_
 refine Mu ?_;refine WK ?_;iterate 6 refine k_g ?_
 refine k_s (by exact Ar (cells:= #[.int .i64 (tg:Nat),.slice none 0 0,.slice none 0 0]) rfl gg rfl (Yk _)) ?_;refine k_g ?_;refine M2 ?_;iterate 5 refine k_g ?_
 refine k_s (by exact Ah (v:= .bool true) rfl gg rfl (eo func108) (fun w' hb=>by have:=Pw (tg:Int) w';rw[hm]at this;exact this)) ?_;iterate 6 refine k_g ?_
 refine B7 (α:={x:Nat×(Nat×List Nat)×Value×List Tr // x.2.2.2.length=x.1∧x.1≤20∧x.2.1.2.length≤x.2.1.1∧x.2.1.2.length≤1048576∧(∀y∈x.2.1.2,y<256)∧AJ w x.2.2.1 x.2.1.2.length 1 (x.2.1.2.map b8) S∧Cd (BL f') x.2.1.1 x.2.1.2 x.2.2.2=K}) (fun(x:{x:Nat×(Nat×List Nat)×Value×List Tr // x.2.2.2.length=x.1∧x.1≤20∧x.2.1.2.length≤x.2.1.1∧x.2.1.2.length≤1048576∧(∀y∈x.2.1.2,y<256)∧AJ w x.2.2.1 x.2.1.2.length 1 (x.2.1.2.map b8) S∧Cd (BL f') x.2.1.1 x.2.1.2 x.2.2.2=K}) f=>⟨.v (f 0):: .v (.int .i64 (d:Nat)):: .v (f 2):: .v (f 3):: .p 4 0:: .v (f 5):: .v (f 6):: .v (.int .i64 (tg:Nat)):: .v (f 8):: .v (f 9):: .v x.1.2.2.1:: .v (As (k+n) b.length 1 v):: .p 12 0::fv f 75 13 [],AK [(900,.row x.1.1 3 108 (NZ x.1.2.2.2)),(12,.cells [.v (.int .i64 (tg:Nat)),.v (.slice none 0 0),.d 900] 108),(4,.cells [.v (.int .i64 0),.v (.slice none 0 0),.v (.slice none 0 0)] 108)]⟩) (fun x=>x.1.2.1.1) ?_ (⟨(0,(n,L),As k (k+n) 1 v,[]),rfl,Nat.zero_le _,by show L.length≤n;omega,by show L.length≤1048576;omega,hL8,hin,hK⟩) ?_
 ·rintro⟨⟨i,⟨m,l⟩,v',acc⟩,hacc,hi,hlm,hl6,hl8,hv',hgo⟩ f
  simp only at hacc hi hlm hl6 hl8 hv' hgo;obtain⟨q,h_q⟩: ∃q,decide (l.length>0)=q:=⟨_,rfl⟩
  have h_q':=(EI l.length 0).trans h_q;change VOk _ _ _ _ _;simp only[fv,Nat.reduceAdd];iterate 4 refine k_g ?_
  refine k_s (by exact BM rfl gg rfl underlying26 (AW hv')) ?_;refine QA ?_;refine k_g ?_;cases q
  ·refine k_g ?_
   have hK1:K=some acc:=by rw[←hgo,List.eq_nil_of_length_eq_zero (by have:=of_decide_eq_false h_q;omega:l.length=0),kw]
   refine Aq ?_;change VOk _ _ _ _ _;iterate 4 refine k_g ?_
   refine M2 ?_;iterate 3 refine k_g ?_
   refine AG ?_;refine AD (B9 results117 (BN rfl rfl underlying108 rfl sizeOf108 rfl) (AE rfl) (AE rfl)) ?_;intro ρ w' hr;first|(subst hK0;exact⟨_,rfl,GU,hr.1⟩)|(subst hK1;refine⟨_,rfl,?_,hr.1⟩;have:=UP (t:=(tg:Int)) (ks:=acc) (n:=i) 900 hr hacc rfl;simpa[SV.c,SV.cs] using this)
  ·refine k_g ?_
   obtain⟨m,rfl⟩: ∃j,m=j+1:=⟨m-1,by have:=of_decide_eq_true h_q;omega⟩
   have hfit:=O8 f' l hl8 hl6;obtain⟨q2,h_q2⟩: ∃q,(BL f' l).2.2=q:=⟨_,rfl⟩
   obtain⟨q3,h_q3⟩: ∃q,decide (i=20)=q:=⟨_,rfl⟩
   have h_q3':=(DT i 20).trans h_q3;cases q2<;>cases q3<;>
   (
    iterate 14 refine k_g ?_
    refine WV ?_;refine k_s (by first|exact Cg (D:=AQ (BL f' l).1) (ys:=[rdV f' v' l,.bool true]) [] rfl rfl gg rfl (eo func117) (fun ρ S w' hb _=>by have:=hih _ _ _ (d+1) w' (by omega) (Aa hv' hb) hl8 hl6;rw[h_q2]at this;exact this)|exact Cg (D:=AQ (BL f' l).1) (ys:=[rdV f' v' l,.bool false]) [] rfl rfl gg rfl (eo func117) (fun ρ S w' hb _=>by have:=hih _ _ _ (d+1) w' (by omega) (Aa hv' hb) hl8 hl6;rw[h_q2]at this;exact this)) ?_;iterate 4 refine k_g ?_
    refine M2 ?_;iterate 11 refine k_g ?_
    refine k_s (by first|exact Ev.skip (fun _=>rfl)|exact nx rfl (fun _=>rfl) rfl rfl underlying106) ?_;refine k_s (by first|exact Ev.skip (fun _=>rfl)|exact Ax rfl (fun _=>rfl) rfl rfl h_q3') ?_;iterate 2 refine k_g ?_
    first
    |(
     refine k_g ?_;have hK0:K=none:=by rw[←hgo,Vf (of_decide_eq_true h_q),h_q2,hacc,h_q3];rfl
     iterate 2 refine k_g ?_
     refine HX ?_;refine M2 ?_;iterate 3 refine k_g ?_
     refine AG ?_;refine AD (B9 results117 (BN rfl rfl underlying108 rfl sizeOf108 rfl) (AE rfl) (AE rfl)) ?_;intro ρ w' hr;first|(subst hK0;exact⟨_,rfl,GU,hr.1⟩)|(subst hK1;refine⟨_,rfl,?_,hr.1⟩;have:=UP (t:=(tg:Int)) (ks:=acc) (n:=i) 900 hr hacc rfl;simpa[SV.c,SV.cs] using this)
     )
    |(
     iterate 6 refine k_g ?_
     refine k_s (by exact JG (n:=3) (l:=[.fn (AU 0) (.d 67),.fn (AU 1) (.d 67),.fn (AU 2) (.d 67)]) [67] rfl rfl gg rfl (fun ρ S w' hR=>CG _) rfl rfl rM) ?_;refine k_s (by exact XV (id:=900) (ys:=83) (n:=i) (k:=1) (k':=1) (size:=3) (NZ (acc++[(BL f' l).1])) [900,83,67] rfl rfl gg rfl rfl rfl rfl rfl (Nat.le_refl _) underlying106 Xb (by decide) (by simp only[maxLen];omega) (by omega) (by simp) (by simp) (fun ρ S w' hR=>by obtain⟨c,h1,h2⟩:=CY (id:=67) hR (by simp) rfl;exact(fn3 h1 (CM h2)).2▸FR h2) (fun ρ S w' xs hb hR hxs=>by obtain⟨c,h1,h2⟩:=CY (id:=67) hR (by simp) rfl;rw[(fn3 h1 (CM h2)).2];exact Zb (Rw (fun k hk=>⟨67,by simp,rfl,hk⟩) h2) (JZ (fun k hk=>⟨900,by simp,rfl,hk⟩) hxs))) ?_;refine k_g ?_;refine k_s (by exact Az (vl:=[.d 84]) [12,84] rfl gg rfl rfl rfl sizeOf106 rfl (fun ρ S w' _ hR=>by have hh:=CO (id:=84) hR (by simp) rfl;exact⟨hh.1,by simp[SV.cs,SV.c,hh.2]⟩) rfl (by simp)) ?_;refine k_g ?_;refine⟨⟨(i+1,(m,(BL f' l).2.1),rdV f' v' l,acc++[(BL f' l).1]),by simp[hacc],by show i+1≤20;have:=of_decide_eq_false h_q3;omega,by show(BL f' l).2.1.length≤m;have:=(hfit.2.2.1 h_q2).2;omega,by show(BL f' l).2.1.length≤1048576;have:=(hfit.2.2.1 h_q2).2;omega,fun y hy=>hl8 y (hfit.2.2.2 y hy),MK f' hv',?_⟩,by show m<m+1;omega,?_⟩
     ·show Cd (BL f') m (BL f' l).2.1 (acc++[(BL f' l).1])=K
      rw[Vf (of_decide_eq_true h_q),h_q2,hacc,h_q3]at hgo;exact hgo
     exact(Al (fun i=>i==1||i==4||i==7||i==10||i==11||i==12) [83,13,67]).trans2 (fun f=>DI 84 900 (by decide) rfl)
     )
   )
 ·refine(Al (fun i=>i==1||i==4||i==7||i==10||i==11||i==12) []).trans2 (fun f=> ?_)
  refine(Jc 900 3 108 (NZ []) (fun w=>by trivial) (m':=[(12,.cells [.v (.int .i64 (tg:Nat)),.v (.slice none 0 0),.d 900] 108),(4,.cells [.v (.int .i64 0),.v (.slice none 0 0),.v (.slice none 0 0)] 108)]) rfl rfl (fun ρ _=>rfl) (fun ρ hv=> ?_));simp[GW,BS,Blk.sim,SV.cs,SV.c,hv,Bb]
theorem Wq(h8: ∀x∈b,x<256):(Ak b).2.1<65536∧(Ak b).2.2≤4∧(Ak b).1<256:=by
 obtain⟨⟨tg,n,k⟩,hh⟩: ∃z,Ak b=z:=⟨_,rfl⟩
 by_cases hk:k=0
 ·subst hk
  have:Ak b=(0,0,0):=by
   unfold Ak at hh⊢;split at hh
   ·rename_i t c r
    cases h1:decide (c<128)<;>cases h2:(decide (c=129) && decide (1≤r.length))<;>cases h3:(decide (c=130) && decide (2≤r.length))<;>rw[h1,h2,h3]at hh<;>cases h4:decide (r.getD 0 0<128)<;>cases h5:decide (r.getD 0 0*256+r.getD 1 0<256)<;>(try rw[h4]at hh)<;>(try rw[h5]at hh)<;>simp at hh⊢
   ·rfl
  rw[this];decide
 ·obtain⟨h1,h2,_,h3⟩:=mz h8 hh hk
  have:(Am n).length≤3:=px h1;rw[hh];exact⟨h1,by show k≤4;omega,h2⟩
theorem O7: ∀f,ZS f
 |0=>fun v b S d w hd hv h8 hbl=>by
  obtain⟨g1,g2,g3⟩:=Wq h8;obtain⟨⟨tg,n,k⟩,hh⟩: ∃z,Ak b=z:=⟨_,rfl⟩
  rw[hh]at g1 g2 g3;have hb6:n<65536∧k≤4∧tg<256∧d≤9:=⟨g1,g2,g3,by omega⟩
  simp only[rdV,BL];by_cases hk:k=0
  ·exact TQ w hv h8 hbl hh hb6 hk
  ·by_cases hn:n+k>b.length
   ·exact TP w hv h8 hbl hh hb6 hk hn
   ·exact dS w hv h8 hbl hh hb6 hk (by omega) (by omega)
 |f+1=>fun v b S d w hd hv h8 hbl=>by
  obtain⟨g1,g2,g3⟩:=Wq h8;obtain⟨⟨tg,n,k⟩,hh⟩: ∃z,Ak b=z:=⟨_,rfl⟩
  rw[hh]at g1 g2 g3;have hb6:n<65536∧k≤4∧tg<256∧d≤9:=⟨g1,g2,g3,by omega⟩
  simp only[rdV,BL,hh];by_cases hk:k=0
  ·rw[decide_eq_true hk];exact TQ w hv h8 hbl hh hb6 hk
  ·rw[decide_eq_false hk]
   by_cases hn:n+k>b.length
   ·rw[decide_eq_true hn];exact TP w hv h8 hbl hh hb6 hk hn
   ·rw[decide_eq_false hn]
    simp only[Bool.or_self,cond_false];cases hm:Cq tg with
    |false=>exact dR w hv h8 hbl hh hb6 hk (by omega) (by omega) hm
    |true=>
     obtain⟨K,hK⟩: ∃K,Cd (BL f) n ((b.drop k).take n) []=K:=⟨_,rfl⟩
     have:=dN w hv h8 hbl hh hb6 hk (by omega) (by omega) hm (O7 f) (by omega) hK;simp only[Bool.not_true,cond_false];rw[hK];cases K<;>exact this
theorem ua(hv:AJ w v b.length 1 (b.map b8) S)(_h8: ∀x∈b,x<256)(hbl:b.length≤1048576)(hl:b.length>2048):Calls prog 91 #[v] w fun e w'=> ∃v',e= .returned (.tuple #[v',.int .i64 4])∧BO w w' v' (AQ (noT))∧Bw w w':=by
 go_enter func91,ntmps91
 refine AO ?_;iterate 9 refine k_g ?_
 refine CQ ?_;refine V5 ?_;iterate 4 refine k_g ?_
 refine HX ?_;iterate 3 refine k_g ?_
 refine AG ?_;refine AD (Av results91 (BN rfl rfl underlying108 rfl sizeOf108 rfl) (AE rfl)) ?_;intro ρ w' hr;refine⟨_,rfl,?_,hr.1⟩;exact GU
theorem uZ(hv:AJ w v b.length 1 (b.map b8) S)(h8: ∀x∈b,x<256)(hbl:b.length≤1048576){t:Tr}(hl:b.length≤2048)(hz:BL 8 b=(t,r,false)):Calls prog 91 #[v] w fun e w'=> ∃v',e= .returned (.tuple #[v',.int .i64 2])∧BO w w' v' (AQ (noT))∧Bw w w':=by
 have hrs:=MK 8 hv;rw[hz]at hrs
 go_enter func91,ntmps91
 refine AO ?_;iterate 9 refine k_g ?_
 refine CQ ?_;refine Ki ?_;iterate 6 refine k_g ?_
 refine k_s (by exact Cg (D:=AQ t) (ys:=[rdV 8 v b,.bool false]) [] rfl rfl gg rfl (eo func117) (fun ρ S w' hb _=>by have:=O7 8 _ _ _ 1 w' rfl (Aa hv hb) h8 hbl;rw[hz]at this;exact this)) ?_;iterate 5 refine k_g ?_
 refine k_8 ?_;iterate 10 refine k_g ?_
 refine QE ?_;refine k_3 ?_;iterate 5 refine k_g ?_
 refine HX ?_;refine k_8 ?_;iterate 2 refine k_g ?_
 refine AG ?_;refine AD (Av results91 (BN rfl rfl underlying108 rfl sizeOf108 rfl) (AE rfl)) ?_;intro ρ w' hr;refine⟨_,rfl,?_,hr.1⟩;exact GU
theorem uY(hv:AJ w v b.length 1 (b.map b8) S)(h8: ∀x∈b,x<256)(hbl:b.length≤1048576){t:Tr}(hl:b.length≤2048)(hz:BL 8 b=(t,r,true))(hr0:r.length>0):Calls prog 91 #[v] w fun e w'=> ∃v',e= .returned (.tuple #[v',.int .i64 2])∧BO w w' v' (AQ (noT))∧Bw w w':=by
 have hrs:=MK 8 hv;rw[hz]at hrs
 go_enter func91,ntmps91
 refine AO ?_;iterate 9 refine k_g ?_
 refine CQ ?_;refine Ki ?_;iterate 6 refine k_g ?_
 refine WX ?_;iterate 5 refine k_g ?_
 refine k_8 ?_;iterate 10 refine k_g ?_
 refine QE ?_;refine Mt ?_;iterate 5 refine k_g ?_
 refine HX ?_;refine k_8 ?_;iterate 2 refine k_g ?_
 refine AG ?_;refine AD (Av results91 (BN rfl rfl underlying108 rfl sizeOf108 rfl) (AE rfl)) ?_;intro ρ w' hr;refine⟨_,rfl,?_,hr.1⟩;exact GU
theorem uX(hv:AJ w v b.length 1 (b.map b8) S)(h8: ∀x∈b,x<256)(hbl:b.length≤1048576){t:Tr}(hl:b.length≤2048)(hz:BL 8 b=(t,r,true))(hr0:r.length=0):Calls prog 91 #[v] w fun e w'=> ∃v',e= .returned (.tuple #[v',.int .i64 0])∧BO w w' v' (AQ (t))∧Bw w w':=by
 have hrs:=MK 8 hv;rw[hz]at hrs
 go_enter func91,ntmps91
 refine AO ?_;iterate 9 refine k_g ?_
 refine CQ ?_;refine Ki ?_;iterate 6 refine k_g ?_
 refine WX ?_;iterate 5 refine k_g ?_
 refine k_8 ?_;iterate 10 refine k_g ?_
 refine QE ?_;refine Hb ?_;iterate 7 refine k_g ?_
 refine k_8 ?_;iterate 2 refine k_g ?_
 refine AG ?_;refine AD (Av results91 (BN rfl rfl underlying108 rfl sizeOf108 rfl) (AE rfl)) ?_;intro ρ w' hr;exact⟨_,rfl,GH 13 hr rfl,hr.1⟩
theorem Rn(hv:AJ w v b.length 1 (b.map b8) S)(h8: ∀x∈b,x<256)(hbl:b.length≤1048576):Calls prog 91 #[v] w fun e w'=> ∃v',e= .returned (.tuple #[v',.int .i64 (rdT b).2])∧BO w w' v' (AQ ((rdT b).1))∧Bw w w':=by
 unfold rdT;by_cases hl:b.length>2048
 ·rw[decide_eq_true hl];exact ua w hv h8 hbl hl
 ·rw[decide_eq_false hl]
  obtain⟨⟨t,r,ok⟩,hz⟩: ∃z,BL 8 b=z:=⟨_,rfl⟩
  rw[hz];cases ok with
  |false=>exact uZ w hv h8 hbl (by omega) hz
  |true=>
   by_cases hr:r.length>0
   ·have e:isNil r=false:=decide_eq_false (by omega)
    simp only[e];exact uY w hv h8 hbl (by omega) hz hr
   ·have e:isNil r=true:=decide_eq_true (by omega)
    simp only[e];exact uX w hv h8 hbl (by omega) hz (by omega)
end Go.Proofs.YtefpajmkaaielaaGreatDoor
