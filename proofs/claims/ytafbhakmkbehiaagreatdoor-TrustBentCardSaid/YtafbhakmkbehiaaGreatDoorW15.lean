import Derived.Test.YtafbhakmkbehiaaGreatDoorW13
open Go.Proofs.Tryz
set_option maxHeartbeats 4000000
set_option maxRecDepth 100000
namespace Go.Proofs.YtafbhakmkbehiaaGreatDoor
open Go.RowKit Go.Vx
variable(w:World){ops:Array Oper}{b r:List Nat}{rd:List Nat->Tr×List Nat×Bool}{ks:List Tr}{d k n t tg u:Nat}{ρ:Nat->Nm}{S:Nat->Prop}{x:Operand}{P:Program}{s:VS}{v:Value}{w0:World}
def Aw(b:List Nat):Nat×Nat×Nat:=
 match b with
 |t::c::r=>
  bif decide (c<128)then(t,c,2)else
  bif decide (c=129) && decide (1<=r.length)then(bif decide (r.getD 0 0<128)then(0,0,0)else(t,r.getD 0 0,3))else
  bif decide (c=130) && decide (2<=r.length)then(bif decide (r.getD 0 0*256+r.getD 1 0<256)then(0,0,0)else(t,r.getD 0 0*256+r.getD 1 0,4))else(0,0,0)
 |_=>(0,0,0)
def noT:Tr:=.mk 0 [] []
def noR:Tr×List Nat×Bool:=(noT,[],false)
def CC(rd:List Nat->Tr×List Nat×Bool):Nat->List Nat->List Tr->Option (List Tr)
 |_,[],acc=>some acc
 |0,_::_,_=>none
 |n+1,x::r,acc=>bif !(rd (x::r)).2.2||decide (acc.length=20)then none else CC rd n (rd (x::r)).2.1 (acc++[(rd (x::r)).1])
def A9:Nat->List Nat->Tr×List Nat×Bool
 |0,_=>noR
 |d+1,b=>bif decide ((Aw b).2.2=0)||decide ((Aw b).2.1+(Aw b).2.2>b.length)then noR else
  bif !(CB (Aw b).1)then(.mk (Aw b).1 ((b.drop (Aw b).2.2).take (Aw b).2.1) [],b.drop ((Aw b).2.2+(Aw b).2.1),Fg (Aw b).1 ((b.drop (Aw b).2.2).take (Aw b).2.1))else
  match CC (A9 d) (Aw b).2.1 ((b.drop (Aw b).2.2).take (Aw b).2.1) []with
  |none=>noR
  |some ks=>(.mk (Aw b).1 [] ks,b.drop ((Aw b).2.2+(Aw b).2.1),true)
theorem UW:∀(ks:List Tr) (acc:List Nat),bb acc ks=acc++bb [] ks
 | [],acc=>by simp[bb]
 |k::ks,acc=>by simp only[bb];rw[UW ks (acc++Aq k),UW ks ([]++Aq k)];simp
theorem QW(k:Tr)(ks:List Tr):bb [] (k::ks)=Aq k++bb [] ks:=by simp only[bb];rw[UW ks ([]++Aq k)];simp
theorem rK(k:Tr)(ks:List Tr):bb [] (ks++[k])=bb [] ks++Aq k:=by
 induction ks with
 |nil=>simp[bb]
 |cons a ks ih=>rw[List.cons_append,QW,ih,QW];simp
theorem Z5(g:∀x∈b,x<256)(h:Aw b=(t,n,k))(C:k≠0):n<65536/\t<256/\b=t::Ao n++b.drop k/\k=1+(Ao n).length:=by
 unfold Aw at h;split at h
 case h_2=>simp only[RC]at h;omega
 case h_1 t' c r=>
  have o:=g t' (by simp);have B:=g c (by simp);cases f:decide (c<128)with
  |true=>
   have f:=yA f;simp only[f,decide_true,cond_true,RC]at h;obtain⟨rfl,rfl,rfl⟩:=h;have e:Ao c=[c]:=by simp only[Ao,f,decide_true,cond_true,n8,zX,zS];omega
   rw[e];exact⟨by omega,o,rfl,rfl⟩
  |false=>
   have f:=yC f;simp only[yB f,cond_false]at h;cases i:(decide (c=129) && decide (1<=r.length))with
   |true=>
    rw[i]at h;simp only[cond_true]at h;simp only[yW,BY]at i;obtain⟨rfl,m⟩:=i;obtain⟨x,s,rfl⟩:∃x s,r=x::s:=by cases r with|nil=>simp at m|cons x s=>exact⟨x,s,rfl⟩
    have q:=g x (by simp);simp only[List.getD_cons_zero]at h;cases a:decide (x<128)with
    |true=>rw[a]at h;simp only[cond_true,RC]at h;omega
    |false=>
     have l:=yC a;rw[a]at h;simp only[cond_false,RC]at h;obtain⟨rfl,rfl,rfl⟩:=h
     have e:Ao x=[129,x]:=by
      simp only[Ao,a,cond_false,yE q,cond_true,n8,zX,zS,true_and];omega
     rw[e];exact⟨by omega,o,rfl,rfl⟩
   |false=>
    rw[i]at h;simp only[cond_false]at h;cases j:(decide (c=130) && decide (2<=r.length))with
    |false=>rw[j]at h;simp only[cond_false,RC]at h;omega
    |true=>
     rw[j]at h;simp only[cond_true]at h;simp only[yW,BY]at j;obtain⟨rfl,m⟩:=j
     obtain⟨x,y,s,rfl⟩:∃x y s,r=x::y::s:=by
      match r,m with
      |x::y::s,_=>exact⟨x,y,s,rfl⟩
     have q:=g x (by simp);have D:=g y (by simp);simp only[List.getD_cons_zero,List.getD_cons_succ]at h;cases a:decide (x*256+y<256)with
     |true=>rw[a]at h;simp only[cond_true,RC]at h;omega
     |false=>
      have l:=yC a;rw[a]at h;simp only[cond_false,RC]at h;obtain⟨rfl,rfl,rfl⟩:=h
      have e:Ao (x*256+y)=[130,x,y]:=by
       have z:n8 (hb (x*256+y) 8)=x:=by unfold n8 hb;omega
       have A:n8 (x*256+y)=y:=by unfold n8;omega
       simp only[Ao,yB (p:=x*256+y<128) (by omega),a,cond_false,yE (p:=x*256+y<65536) (by omega),cond_true,z,A]
      rw[e];exact⟨by omega,o,rfl,rfl⟩
theorem Z4(i:n<65536)(r:List Nat):Aw (t::Ao n++r)=(t,n,1+(Ao n).length):=by
 unfold Ao;cases a:decide (n<128)with
 |true=>
  have c:=yA a;simp only[cond_true,List.cons_append,List.nil_append,Aw];have e:n8 n=n:=by unfold n8;omega
  rw[e,a];rfl
 |false=>
  have c:=yC a;cases f:decide (n<256)with
  |true=>
   have g:=yA f;have e:n8 n=n:=by unfold n8;omega
   simp only[cond_true,cond_false,List.cons_append,List.nil_append,Aw,List.getD_cons_zero,e,a];rw[yB (p:=129<128) (by decide),yE (p:=1<=(n::r).length) (by simp)];rfl
  |false=>
   have g:=yC f;have h:n8 (hb n 8)*256+n8 n=n:=by unfold n8 hb;omega
   simp only[yE i,cond_true,cond_false,List.cons_append,List.nil_append,Aw,List.getD_cons_zero,List.getD_cons_succ,h,f];rw[yB (p:=130<128) (by decide),yE (p:=2<=(n8 (hb n 8)::n8 n::r).length) (by simp)];rfl
theorem VQ(h:t<256):tb (t:Int)=t:=by unfold tb;omega
theorem N9{t:Int}(h:CB t=true\/Fg t b=true):((tb t:Nat):Int)=t/\tb t<256:=by
 have:t=48\/t=160\/t=161\/t=162\/t=163\/t=1\/t=2\/t=3\/t=4\/t=6\/t=12:=by
  rcases h with h|h
  .simp only[CB,Bool.or_eq_true,yW,BY]at h;omega
  .unfold Fg at h
   by_cases c:t=1
   .omega
   by_cases e:t=2
   .omega
   by_cases f:t=3
   .omega
   by_cases g:t=4
   .omega
   by_cases i:t=6
   .omega
   by_cases a:t=12
   .omega
   simp[c,e,f,g,i,a]at h
 unfold tb;omega
theorem Og{t:Int}(h:Ak (.mk t b ks) d=true):d<=8/\((CB t=false/\ks=[]/\Fg t b=true)\/(CB t=true/\b=[]/\ks.length<=20/\Bs ks (d+1)=false)):=by
 simp only[Ak]at h;cases a:decide (d>8)with
 |true=>rw[a]at h;cases h
 |false=>
  rw[a]at h;have f:=yC a;simp only[cond_false]at h;refine⟨by omega,?_⟩;cases e:CB t with
  |false=>
   rw[e]at h;simp only[IN,cond_true,yW,BY]at h;exact .inl ⟨rfl,zJ h.1,h.2⟩
  |true=>
   rw[e]at h;simp only[z5,cond_false]at h;cases c:(decide (b.length>0)||decide (ks.length>20))with
   |true=>rw[c]at h;cases h
   |false=>
    rw[c]at h;simp only[cond_false,uF2]at h;simp only[uC1,uE3]at c;exact .inr ⟨rfl,zJ (by omega),by omega,h⟩
theorem WG{t:Int}(e:d<=8)(a:CB t=false)(c:Fg t b=true):Ak (.mk t b []) d=true:=by
 simp only[Ak,yB (p:=d>8) (by omega),a,c,cond_false,IN,cond_true,List.length_nil,decide_true,Bool.and_self]
theorem WF{t:Int}(f:d<=8)(a:CB t=true)(e:ks.length<=20)(c:Bs ks (d+1)=false):Ak (.mk t [] ks) d=true:=by
 simp only[Ak,yB (p:=d>8) (by omega),a,c,cond_false,z5,List.length_nil,IN];rw[yB (p:=(0:Nat)>0) (by omega),yB (p:=ks.length>20) (by omega)];rfl
theorem UN(t:Int)(b:List Nat):Aq (.mk t b [])=tb t::Ao b.length++b:=by simp only[Aq,bb];rfl
theorem UM(t:Int)(ks:List Tr):Aq (.mk t [] ks)=tb t::Ao (bb [] ks).length++bb [] ks:=by simp only[Aq];rfl
theorem bX(t:Tr):2<=(Aq t).length:=by
 cases t with
 |mk t b ks=>
  have:1<=(Ao (bb b ks).length).length:=by
   unfold Ao;cases decide ((bb b ks).length<128)<;>cases decide ((bb b ks).length<256)<;>cases decide ((bb b ks).length<65536)<;>simp
  simp only[Aq,yM,uA8];omega
theorem lH(ks:List Tr)(k:Tr)(d:Nat):Bs (ks++[k]) d=(Bs ks d|| !(Ak k d)):=by
 induction ks with
 |nil=>simp[Bs]
 |cons a ks ih=>simp only[List.cons_append,Bs,ih,Bool.or_assoc]
def cn(rd:List Nat->Tr×List Nat×Bool)(d:Nat):Prop:=
 ∀b:List Nat,(∀x∈b,x<256)-> ∀t r,rd b=(t,r,true)->Ak t d=true/\b=Aq t++r
theorem Y4{rd:List Nat->Tr×List Nat×Bool}{d:Nat}(h:cn rd d):∀(n:Nat) (b:List Nat) (a ks:List Tr),(∀x∈b,x<256)->a.length<=20->Bs a d=false->CC rd n b a=some ks->ks.length<=20/\Bs ks d=false/\bb [] a++b=bb [] ks
 |n,[],a,ks,_,hl,hr,hk=>by
  cases n<;>(simp only[CC,yT]at hk;subst hk;exact⟨hl,hr,by simp⟩)
 |0,x::r,a,ks,_,_,_,hk=>by simp[CC]at hk
 |n+1,x::r,a,ks,h8,hl,hr,hk=>by
  simp only[CC]at hk;obtain⟨⟨t,i,A⟩,c⟩:∃z,rd (x::r)=z:=⟨_,rfl⟩
  rw[c]at hk;cases A with
  |false=>simp at hk
  |true=>
   cases f:decide (a.length=20)with
   |true=>rw[f]at hk;simp at hk
   |false=>
    rw[f]at hk;have p:=yC f;simp only[z5,Bool.or_self,cond_false]at hk;obtain⟨o,g⟩:=h _ h8 _ _ c;have e:∀y∈i,y<256:=λy q=>h8 y (by rw[g];exact List.mem_append_right _ q)
    obtain⟨j,l,m⟩:=Y4 h n i (a++[t]) ks e (by rw[yM,uA8];omega) (by rw[lH,hr,o];rfl) hk;refine⟨j,l,?_⟩;rw[<-m,rK,g];simp
theorem WN:∀(f d:Nat),d+f=9->cn (A9 f) d
 |0,d,_=>λb j t r h=>by simp[A9,noR]at h
 |f+1,d,hd=>λb j t r h=>by
  simp only[A9]at h;obtain⟨⟨tg,n,k⟩,m⟩:∃z,Aw b=z:=⟨_,rfl⟩
  rw[m]at h;simp only at h;cases e:(decide (k=0)||decide (n+k>b.length))with
  |true=>rw[e]at h;simp[noR]at h
  |false=>
   rw[e]at h;simp only[uC1,uE3]at e;obtain⟨F,p,hb,E⟩:=Z5 j m e.1;have o:((b.drop k).take n).length=n:=by rw[z6,zH];omega
   have a:(b.drop k).take n++b.drop (k+n)=b.drop k:=by rw[<-uD4];exact uE6 n (b.drop k)
   have l:∀y∈(b.drop k).take n,y<256:=λy D=>j y (DO (PA D))
   simp only[cond_false]at h;cases g:CB tg with
   |false=>
    rw[g]at h;simp only[IN,cond_true,RC]at h;obtain⟨rfl,rfl,C⟩:=h;refine⟨WG (by omega) g C,?_⟩;rw[UN,o,VQ p,z7,a];exact hb
   |true=>
    rw[g]at h;simp only[z5,cond_false]at h;cases c:CC (A9 f) n ((b.drop k).take n) []with
    |none=>rw[c]at h;simp[noR]at h
    |some ks=>
     rw[c]at h;simp only[RC,zS]at h;obtain⟨rfl,rfl⟩:=h;obtain⟨q,A,B⟩:=Y4 (d:=d+1) (WN f (d+1) (by omega)) n _ [] ks l (by simp) rfl c;refine⟨WF (by omega) g q A,?_⟩;have i:(b.drop k).take n=bb [] ks:=by simpa[bb] using B
     rw[UM,<-i,o,VQ p,z7,a];exact hb
theorem YH{k:Tr}(h:Bs (k::ks) d=false):Ak k d=true/\Bs ks d=false:=by
 simp only[Bs,uC1,uE0]at h;exact h
def Qm(rd:List Nat->Tr×List Nat×Bool)(d:Nat):Prop:=
 ∀(t:Tr) (r:List Nat),Ak t d=true->(Aq t).length<65536->rd (Aq t++r)=(t,r,true)
theorem Y5{rd:List Nat->Tr×List Nat×Bool}{d:Nat}(h:Qm rd d):∀(ks:List Tr) (n:Nat) (a:List Tr),Bs ks d=false->a.length+ks.length<=20->(bb [] ks).length<=n->n<65536->CC rd n (bb [] ks) a=some (a++ks)
 | [],n,a,_,_,_,_=>by cases n<;>simp[bb,CC]
 |k::ks,n,a,hr,hl,hn,hm=>by
  obtain⟨g,i⟩:=YH hr;rw[QW]at hn⊢;rw[yM]at hn;have f:=bX k;obtain⟨m,rfl⟩:∃m,n=m+1:=⟨n-1,by omega⟩
  obtain⟨x,y,e⟩:∃x y,Aq k++bb [] ks=x::y:=by
   cases hb:Aq k with
   |nil=>rw[hb]at f;simp at f
   |cons x y=>exact⟨x,y++bb [] ks,rfl⟩
  have c:=h k (bb [] ks) g (by omega);rw[e]at c⊢;simp only[CC,c];simp only[List.length_cons]at hl;rw[yB (p:=a.length=20) (by omega)];simp only[z5,Bool.or_self,cond_false];rw[Y5 h ks m (a++[k]) i (by rw[yM,uA8];omega) (by omega) (by omega)];simp
theorem WR:∀(f d:Nat),d+f=9->Qm (A9 f) d
 |0,d,hd=>λt r h _=>by
  cases t with
  |mk t b ks=>have:=(Og h).1;omega
 |f+1,d,hd=>λt r h j=>by
  cases t with
  |mk tg b ks=>
   rcases(Og h).2 with⟨hm,rfl,hb⟩|⟨hm,rfl,hk,hn⟩
   .obtain⟨c,q⟩:=N9 (t:=tg) (b:=b) (.inr hb)
    rw[UN]at j⊢;have a:b.length<65536:=by simp only[yM]at j;omega
    have g:=Z4 (t:=tb tg) a (b++r);rw[<-z7]at g;simp only[A9,g]
    have e:((tb tg::Ao b.length++b++r).drop (1+(Ao b.length).length))=b++r:=by
     rw[z7,uC3,DB (by simp;omega)];simp[Nat.add_comm]
    have l:((b++r).take b.length)=b:=by simp
    have m:((tb tg::Ao b.length++b++r).drop (1+(Ao b.length).length+b.length))=r:=by
     rw[<-uD4,e];simp
    rw[e,l,m,c,hm,hb];rw[yB (p:=1+(Ao b.length).length=0) (by omega),yB (by simp only[yM,List.length_cons];omega)];rfl
   .obtain⟨c,q⟩:=N9 (t:=tg) (b:=[]) (.inl hm)
    rw[UM]at j⊢;have a:(bb [] ks).length<65536:=by simp only[yM]at j;omega
    obtain⟨X,o⟩:∃X,bb [] ks=X:=⟨_,rfl⟩
    have i:=Y5 (WR f (d+1) (by omega)) ks X.length [] hn (by simpa using hk) (by rw[o];exact yD _) (by rw[<-o];exact a);rw[o]at a i⊢;have g:=Z4 (t:=tb tg) a (X++r);rw[<-z7]at g;simp only[A9,g]
    have e:((tb tg::Ao X.length++X++r).drop (1+(Ao X.length).length))=X++r:=by
     rw[z7,uC3,DB (by simp;omega)];simp[Nat.add_comm]
    have l:((X++r).take X.length)=X:=by simp
    have m:((tb tg::Ao X.length++X++r).drop (1+(Ao X.length).length+X.length))=r:=by
     rw[<-uD4,e];simp
    rw[e,l,m,c,hm,i];rw[yB (p:=1+(Ao X.length).length=0) (by omega),yB (by simp only[yM,List.length_cons];omega)];rfl
def Bf(b:List Nat):Nat×Nat×Nat:=
 match b with
 |t::c::r=>
  bif decide (c<128)then(t,c,2)else
  bif decide (c=129) && decide (1<=r.length)then(t,r.getD 0 0,3)else
  bif decide (c=130) && decide (2<=r.length)then(t,r.getD 0 0*256+r.getD 1 0,4)else(0,0,0)
 |_=>(0,0,0)
def Cx(rd:List Nat->Tr×List Nat×Bool):Nat->List Nat->List Tr->Option (List Tr)
 |_,[],acc=>some acc
 |0,_::_,_=>none
 |n+1,x::r,acc=>bif !(rd (x::r)).2.2 then none else Cx rd n (rd (x::r)).2.1 (acc++[(rd (x::r)).1])
def A7:Nat->List Nat->Tr×List Nat×Bool
 |0,_=>noR
 |d+1,b=>bif decide ((Bf b).2.2=0)||decide ((Bf b).2.1+(Bf b).2.2>b.length)then noR else
  bif !(CB (Bf b).1)then(.mk (Bf b).1 ((b.drop (Bf b).2.2).take (Bf b).2.1) [],b.drop ((Bf b).2.2+(Bf b).2.1),true)else
  match Cx (A7 d) (Bf b).2.1 ((b.drop (Bf b).2.2).take (Bf b).2.1) []with
  |none=>noR
  |some ks=>(.mk (Bf b).1 [] ks,b.drop ((Bf b).2.2+(Bf b).2.1),true)
theorem Z6(i:n<65536)(r:List Nat):Bf (t::Ao n++r)=(t,n,1+(Ao n).length):=by
 unfold Ao;cases a:decide (n<128)with
 |true=>
  have c:=yA a;simp only[cond_true,List.cons_append,List.nil_append,Bf];have e:n8 n=n:=by unfold n8;omega
  rw[e,a];rfl
 |false=>
  have c:=yC a;cases g:decide (n<256)with
  |true=>
   have f:=yA g;have e:n8 n=n:=by unfold n8;omega
   simp only[cond_true,cond_false,List.cons_append,List.nil_append,Bf,List.getD_cons_zero,e];rw[yB (p:=129<128) (by decide),yE (p:=1<=(n::r).length) (by simp)];rfl
  |false=>
   have f:=yC g;have h:n8 (hb n 8)*256+n8 n=n:=by unfold n8 hb;omega
   simp only[yE i,cond_true,cond_false,List.cons_append,List.nil_append,Bf,List.getD_cons_zero,List.getD_cons_succ,h];rw[yB (p:=130<128) (by decide),yE (p:=2<=(n8 (hb n 8)::n8 n::r).length) (by simp)];rfl
theorem Y8{rd:List Nat->Tr×List Nat×Bool}{d:Nat}(h:Qm rd d):∀(ks:List Tr) (n:Nat) (a:List Tr),Bs ks d=false->(bb [] ks).length<=n->n<65536->Cx rd n (bb [] ks) a=some (a++ks)
 | [],n,a,_,_,_=>by cases n<;>simp[bb,Cx]
 |k::ks,n,a,hr,hn,hm=>by
  obtain⟨g,i⟩:=YH hr;rw[QW]at hn⊢;rw[yM]at hn;have f:=bX k;obtain⟨m,rfl⟩:∃m,n=m+1:=⟨n-1,by omega⟩
  obtain⟨x,y,e⟩:∃x y,Aq k++bb [] ks=x::y:=by
   cases hb:Aq k with
   |nil=>rw[hb]at f;simp at f
   |cons x y=>exact⟨x,y++bb [] ks,rfl⟩
  have c:=h k (bb [] ks) g (by omega);rw[e]at c⊢;simp only[Cx,c,z5,cond_false];rw[Y8 h ks m (a++[k]) i (by omega) (by omega)];simp
theorem X7:∀(f d:Nat),d+f=9->Qm (A7 f) d
 |0,d,hd=>λt r h _=>by
  cases t with
  |mk t b ks=>have:=(Og h).1;omega
 |f+1,d,hd=>λt r h j=>by
  cases t with
  |mk tg b ks=>
   rcases(Og h).2 with⟨hm,rfl,hb⟩|⟨hm,rfl,hk,hn⟩
   .obtain⟨c,q⟩:=N9 (t:=tg) (b:=b) (.inr hb)
    rw[UN]at j⊢;have a:b.length<65536:=by simp only[yM]at j;omega
    have g:=Z6 (t:=tb tg) a (b++r);rw[<-z7]at g;simp only[A7,g]
    have e:((tb tg::Ao b.length++b++r).drop (1+(Ao b.length).length))=b++r:=by
     rw[z7,uC3,DB (by simp;omega)];simp[Nat.add_comm]
    have l:((b++r).take b.length)=b:=by simp
    have m:((tb tg::Ao b.length++b++r).drop (1+(Ao b.length).length+b.length))=r:=by
     rw[<-uD4,e];simp
    rw[e,l,m,c,hm];rw[yB (p:=1+(Ao b.length).length=0) (by omega),yB (by simp only[yM,List.length_cons];omega)];rfl
   .obtain⟨c,q⟩:=N9 (t:=tg) (b:=[]) (.inl hm)
    rw[UM]at j⊢;have a:(bb [] ks).length<65536:=by simp only[yM]at j;omega
    obtain⟨X,o⟩:∃X,bb [] ks=X:=⟨_,rfl⟩
    have i:=Y8 (X7 f (d+1) (by omega)) ks X.length [] hn (by rw[o];exact yD _) (by rw[<-o];exact a);rw[o]at a i⊢;have g:=Z6 (t:=tb tg) a (X++r);rw[<-z7]at g;simp only[A7,g]
    have e:((tb tg::Ao X.length++X++r).drop (1+(Ao X.length).length))=X++r:=by
     rw[z7,uC3,DB (by simp;omega)];simp[Nat.add_comm]
    have l:((X++r).take X.length)=X:=by simp
    have m:((tb tg::Ao X.length++X++r).drop (1+(Ao X.length).length+X.length))=r:=by
     rw[<-uD4,e];simp
    rw[e,l,m,c,hm,i];rw[yB (p:=1+(Ao X.length).length=0) (by omega),yB (by simp only[yM,List.length_cons];omega)];rfl
theorem nS(h:(Bf b).2.2≠0):2<=(Bf b).2.2:=by
 unfold Bf at h⊢;split at h
 .rename_i t c r
  cases a:decide (c<128)<;>cases e:(decide (c=129) && decide (1<=r.length))<;>cases f:(decide (c=130) && decide (2<=r.length))<;>rw[a,e,f]at h<;>simp at h⊢
 .simp at h
theorem nT(h:(Aw b).2.2≠0):2<=(Aw b).2.2:=by
 unfold Aw at h⊢;split at h
 .rename_i t c r
  cases a:decide (c<128)<;>cases e:(decide (c=129) && decide (1<=r.length))<;>cases f:(decide (c=130) && decide (2<=r.length))<;>cases g:decide (r.getD 0 0<128)<;>cases i:decide (r.getD 0 0*256+r.getD 1 0<256)<;>rw[a,e,f]at h<;>(try rw[g]at h)<;>(try rw[i]at h)<;>simp at h⊢
 .simp at h
def Qp(rd:List Nat->Tr×List Nat×Bool):Prop:=
 ∀b:List Nat,(∀x∈b,x<256)->b.length<=1048576->(rd b).1.ok/\wt (rd b).1+5*(rd b).2.1.length<=5*b.length+10/\((rd b).2.2=true->wt (rd b).1+5*(rd b).2.1.length<=5*b.length/\(rd b).2.1.length<b.length)/\ ∀x∈(rd b).2.1,x∈b
theorem JD(b:List Nat):noR.1.ok/\wt noR.1+5*noR.2.1.length<=5*b.length+10/\(noR.2.2=true->wt noR.1+5*noR.2.1.length<=5*b.length/\noR.2.1.length<b.length)/\ ∀x∈noR.2.1,x∈b:=by
 refine⟨?_,?_,?_,?_⟩
 .simp[noR,noT,Tr.ok,oks]
 .simp[noR,noT,wt,wts]
 .intro h;cases h
 .intro x a;cases a
theorem YA{k:Tr}(h:oks ks)(c:k.ok):oks (ks++[k]):=by
 induction ks with
 |nil=>exact⟨c,True.intro⟩
 |cons a ks ih=>simp only[oks]at h;simp only[List.cons_append,oks];exact⟨h.1,ih h.2⟩
theorem Ux(ks:List Tr)(k:Tr):wts (ks++[k])=wts ks+wt k:=by
 induction ks with
 |nil=>simp[wts]
 |cons a ks ih=>simp only[List.cons_append,wts,ih];omega
theorem dK(t:Tr):10<=wt t:=by cases t;simp only[wt];omega
theorem Uy:∀ks:List Tr,10*ks.length<=wts ks
 | []=>by simp[wts]
 |k::ks=>by have:=dK k;have:=Uy ks;simp only[wts,List.length_cons];omega
theorem ZB{rd:List Nat->Tr×List Nat×Bool}(h:Qp rd):∀(n:Nat) (b:List Nat) (a ks:List Tr),(∀x∈b,x<256)->b.length<=1048576->oks a->CC rd n b a=some ks->oks ks/\wts ks<=wts a+5*b.length
 |n,[],a,ks,_,_,ho,hk=>by
  cases n<;>(simp only[CC,yT]at hk;subst hk;exact⟨ho,by simp⟩)
 |0,x::r,a,ks,_,_,_,hk=>by simp[CC]at hk
 |n+1,x::r,a,ks,h8,hm,ho,hk=>by
  simp only[CC]at hk;obtain⟨e,_,f,g⟩:=h (x::r) h8 hm;cases c:(!(rd (x::r)).2.2||decide (a.length=20))with
  |true=>rw[c]at hk;simp at hk
  |false=>
   rw[c]at hk;simp only[uC1,uE0]at c;obtain⟨j,l⟩:=f c.1;obtain⟨f1,f2⟩:=ZB h n _ _ ks (λy i=>h8 y (g y i)) (by omega) (YA ho e) hk;rw[Ux]at f2;exact⟨f1,by omega⟩
theorem Y7{rd:List Nat->Tr×List Nat×Bool}(h:Qp rd):∀(n:Nat) (b:List Nat) (a ks:List Tr),(∀x∈b,x<256)->b.length<=1048576->oks a->Cx rd n b a=some ks->oks ks/\wts ks<=wts a+5*b.length
 |n,[],a,ks,_,_,ho,hk=>by
  cases n<;>(simp only[Cx,yT]at hk;subst hk;exact⟨ho,by simp⟩)
 |0,x::r,a,ks,_,_,_,hk=>by simp[Cx]at hk
 |n+1,x::r,a,ks,h8,hm,ho,hk=>by
  simp only[Cx]at hk;obtain⟨e,_,f,g⟩:=h (x::r) h8 hm;cases c:(!(rd (x::r)).2.2)with
  |true=>rw[c]at hk;simp at hk
  |false=>
   rw[c]at hk;simp only[uE0]at c;obtain⟨j,l⟩:=f c;obtain⟨f1,f2⟩:=Y7 h n _ _ ks (λy i=>h8 y (g y i)) (by omega) (YA ho e) hk;rw[Ux]at f2;exact⟨f1,by omega⟩
theorem HK(h:n+k<=b.length):((b.drop k).take n).length=n/\(b.drop (k+n)).length=b.length-(k+n):=by
 rw[z6,zH,zH];omega
theorem Yy{ok:Bool}(f:∀x∈b,x<256)(i:b.length<=1048576)(h:n+k<=b.length)(g:2<=k):
 (Tr.mk tg ((b.drop k).take n) []).ok/\wt (Tr.mk tg ((b.drop k).take n) [])+5*(b.drop (k+n)).length<=5*b.length+10/\(ok=true->wt (Tr.mk tg ((b.drop k).take n) [])+5*(b.drop (k+n)).length<=5*b.length/\(b.drop (k+n)).length<b.length)/\ ∀x∈b.drop (k+n),x∈b:=by
 obtain⟨c,e⟩:=HK h;refine⟨?_,?_,λ_=>⟨?_,?_⟩,λx a=>DO a⟩
 .simp only[Tr.ok,oks,c,List.length_nil];exact⟨λx a=>f x (DO (PA a)),by omega,by omega,True.intro⟩
 .simp only[wt,wts,c,e];omega
 .simp only[wt,wts,c,e];omega
 .omega
theorem YM(i:b.length<=1048576)(h:n+k<=b.length)(f:2<=k)(e:oks ks)(j:wts ks<=5*n):
 (Tr.mk tg [] ks).ok/\wt (Tr.mk tg [] ks)+5*(b.drop (k+n)).length<=5*b.length+10/\(true=true->wt (Tr.mk tg [] ks)+5*(b.drop (k+n)).length<=5*b.length/\(b.drop (k+n)).length<b.length)/\ ∀x∈b.drop (k+n),x∈b:=by
 obtain⟨l,c⟩:=HK h;have g:=Uy ks;refine⟨?_,?_,λ_=>⟨?_,?_⟩,λx a=>DO a⟩
 .simp only[Tr.ok,List.length_nil];exact⟨λx a=>(by cases a),by omega,by omega,e⟩
 .simp only[wt,List.length_nil,c];omega
 .simp only[wt,List.length_nil,c];omega
 .omega
theorem Rz:∀f,Qp (A9 f)
 |0=>λb _ _=>by simp only[A9];exact JD b
 |f+1=>λb g h=>by
  simp only[A9];have c:=nT (b:=b);obtain⟨⟨tg,n,k⟩,i⟩:∃z,Aw b=z:=⟨_,rfl⟩
  rw[i]at c⊢;simp only at c⊢;cases e:(decide (k=0)||decide (n+k>b.length))with
  |true=>simp only[cond_true];exact JD b
  |false=>
   simp only[uC1,uE3]at e;have a:n+k<=b.length:=by omega
   simp only[cond_false];cases l:CB tg with
   |false=>simp only[IN,cond_true];exact Yy g h a (c e.1)
   |true=>
    simp only[z5,cond_false];cases j:CC (A9 f) n ((b.drop k).take n) []with
    |none=>exact JD b
    |some ks=>
     obtain⟨o,_⟩:=HK a;obtain⟨f1,f2⟩:=ZB (Rz f) n _ [] ks (λx m=>g x (DO (PA m))) (by omega) True.intro j;rw[o]at f2;exact YM h a (c e.1) f1 (by simpa[wts] using f2)
theorem Se:∀f,Qp (A7 f)
 |0=>λb _ _=>by simp only[A7];exact JD b
 |f+1=>λb g h=>by
  simp only[A7];have c:=nS (b:=b);obtain⟨⟨tg,n,k⟩,i⟩:∃z,Bf b=z:=⟨_,rfl⟩
  rw[i]at c⊢;simp only at c⊢;cases e:(decide (k=0)||decide (n+k>b.length))with
  |true=>simp only[cond_true];exact JD b
  |false=>
   simp only[uC1,uE3]at e;have a:n+k<=b.length:=by omega
   simp only[cond_false];cases l:CB tg with
   |false=>simp only[IN,cond_true];simpa using Yy (ok:=true) (tg:=tg) g h a (c e.1)
   |true=>
    simp only[z5,cond_false];cases j:Cx (A7 f) n ((b.drop k).take n) []with
    |none=>exact JD b
    |some ks=>
     obtain⟨o,_⟩:=HK a;obtain⟨f1,f2⟩:=Y7 (Se f) n _ [] ks (λx m=>g x (DO (PA m))) (by omega) True.intro j;rw[o]at f2;exact YM h a (c e.1) f1 (by simpa[wts] using f2)
def isNil(l:List Nat):Bool:=decide (l.length=0)
def rdT(b:List Nat):Tr×Int:=bif decide (b.length>2048)then(noT,4)else bif (A9 8 b).2.2 && isNil (A9 8 b).2.1 then((A9 8 b).1,0)else(noT,2)
def rrT(b:List Nat):Tr×Int:=bif decide (b.length>2048)then(noT,4)else bif (A7 8 b).2.2 && isNil (A7 8 b).2.1 then(bif decide ((wrT (A7 8 b).1).2=0) && decide ((wrT (A7 8 b).1).1=b)then((A7 8 b).1,0)else(noT,2))else(noT,2)
theorem m7{l:List Nat}(h:isNil l=true):l=[]:=zJ (yA h)
theorem iB(h:(rdT b).2=0):b.length<=2048/\A9 8 b=((rdT b).1,[],true):=by
 unfold rdT at h⊢;cases c:decide (b.length>2048)with
 |true=>rw[c]at h;simp at h
 |false=>
  rw[c]at h;have e:=yC c;simp only[cond_false]at h⊢;obtain⟨⟨t,r,g⟩,f⟩:∃z,A9 8 b=z:=⟨_,rfl⟩
  rw[f]at h⊢;simp only at h⊢;cases a:(g && isNil r)with
  |false=>rw[a]at h;simp at h
  |true=>
   simp only[yW]at a;obtain rfl:=a.1;obtain rfl:=m7 a.2;exact⟨by omega,rfl⟩
theorem WX{t:Tr}(h:Ak t 1=true)(c:(Aq t).length<=2048):rdT (Aq t)=(t,0):=by
 have a:=WR 8 1 rfl t [] h (by omega);rw[List.append_nil]at a;unfold rdT;rw[yB (by omega),a];rfl
theorem iA(g:∀x∈b,x<256)(h:(rdT b).2=0):Ak (rdT b).1 1=true/\b=Aq (rdT b).1/\b.length<=2048:=by
 obtain⟨c,e⟩:=iB h;obtain⟨f,a⟩:=WN 8 1 rfl b g _ _ e;rw[List.append_nil]at a;exact⟨f,a,c⟩
theorem iE(b:List Nat):(b.length>2048/\rdT b=(noT,4))\/(b.length<=2048/\(rdT b=(noT,2)\/(rdT b).2=0)):=by
 unfold rdT;cases a:decide (b.length>2048)with
 |true=>exact .inl ⟨yA a,rfl⟩
 |false=>
  have c:=yC a;refine .inr ⟨by omega,?_⟩;cases (A9 8 b).2.2 && isNil (A9 8 b).2.1 with
  |true=>exact .inr rfl
  |false=>exact .inl rfl
theorem U3{t:Tr}(h:Ak t 1=true)(a:(Aq t).length<=2048):wrT t=(Aq t,0):=by
 rcases U4 t with⟨e,_⟩|⟨_,e,_⟩|⟨_,_,e⟩
 .rw[h]at e;cases e
 .omega
 .exact e
theorem dQ{t:Tr}(h:(wrT t).2=0):Ak t 1=true/\(Aq t).length<=2048/\wrT t=(Aq t,0):=by
 rcases U4 t with⟨_,e⟩|⟨_,_,e⟩|⟨a,c,f⟩
 .rw[e]at h;cases h
 .rw[e]at h;cases h
 .exact⟨a,c,f⟩
theorem gl(y:∀x∈b,x<256):rrT b=rdT b:=by
 rcases iE b with⟨m,e⟩|⟨m,e⟩
 .unfold rrT;rw[e,yE m];rfl
 .have o:rrT b=bif (A7 8 b).2.2 && isNil (A7 8 b).2.1 then(bif decide ((wrT (A7 8 b).1).2=0) && decide ((wrT (A7 8 b).1).1=b)then((A7 8 b).1,0)else(noT,2))else(noT,2):=by
   unfold rrT;rw[yB (by omega)];rfl
  by_cases f:(rdT b).2=0
  .obtain⟨c,a,g⟩:=iA y f
   have j:(rdT b)=((rdT b).1,0):=by rw[<-f]
   obtain⟨t,z⟩:∃t,(rdT b).1=t:=⟨_,rfl⟩
   rw[z]at c a j;have i:=X7 8 1 rfl t [] c (by rw[<-a];omega);rw[List.append_nil,<-a]at i;have p:=U3 c (by rw[<-a];exact g);rw[<-a]at p;rw[o,i,j];simp only[p,decide_true];rfl
  .have q:rdT b=(noT,2):=e.resolve_right f
   rw[o,q];cases A:((A7 8 b).2.2 && isNil (A7 8 b).2.1)with
   |false=>rfl
   |true=>
    cases h:(decide ((wrT (A7 8 b).1).2=0) && decide ((wrT (A7 8 b).1).1=b))with
    |false=>rfl
    |true=>
     exfalso;simp only[yW,BY]at h;obtain⟨c,a,g⟩:=dQ h.1;have hb:Aq (A7 8 b).1=b:=by have l:=h.2;rw[g]at l;exact l
     have:=WX c a;rw[hb]at this;rw[this]at f;exact f rfl
theorem I3(e:∀x∈b,x<256)(f:b.length<=1048576):(rdT b).1.ok:=by
 have a:=(Rz 8 b e f).1;have c:=(JD b).1;unfold rdT;cases decide (b.length>2048)<;>cases (A9 8 b).2.2 && isNil (A9 8 b).2.1<;>first|exact a|exact c
theorem Nc{b:Nat}(h:b<256)(w:World):(convert 5 3 (.int .u8 (b:Nat))).run prog w=.ok (.int .i64 (b:Nat)) w:=by
 have e:IntKind.i64.wrap (b:Int)=(b:Int):=Ah (by omega) (by omega)
 go_simp
theorem Rp{v:Nat}(c:v<65536)(a:v*256=u):BOy .shl 3 (.int .i64 (v:Nat)) (.int .u64 8) (.int .i64 ((u:Nat):Int)):=by
 intro p q w
 subst a;have e:IntKind.i64.wrap ((v:Int)*256)=(v:Int)*256:=Ah (by omega) (by omega)
 go_simp
 try omega
theorem nH(v b:Nat)(f:v<65536)(e:b<256):bits .or .i64 ((v*256:Nat):Int) (b:Int)=((v*256+b:Nat):Int):=by
 have h:(BitVec.ofInt 64 ((v*256:Nat):Int)|||BitVec.ofInt 64 (b:Int)).toNat=v*256+b:=by
  rw[BitVec.toNat_or,uC6,uC6];have a:(((v*256:Nat):Int) %((2^64:Nat):Int)).toNat=v*256:=by omega
  have c:((b:Int) %((2^64:Nat):Int)).toNat=b:=by omega
  rw[a,c];have:=Nat.two_pow_add_eq_or_of_lt (i:=8) (b:=b) (by omega) v;rw[zE v 256];exact this.symm
 show IntKind.i64.wrap ((BitVec.ofInt 64 ((v*256:Nat):Int)|||BitVec.ofInt 64 (b:Int)).toNat:Int)=_;rw[h];exact Ah (by omega) (by omega)
theorem Sb{v b z:Nat}(e:v<65536)(a:b<256)(c:v*256=u)(f:u+b=z):BOy .or 3 (.int .i64 (u:Nat)) (.int .i64 (b:Nat)) (.int .i64 ((z:Nat):Int)):=by
 intro p q w
 subst c;subst f;have h:=nH v b e a;rw[Int.natCast_add,Int.natCast_mul]at h
 go_simp
 exact h
theorem Z3(hv:AO w v b.length 1 (b.map b8) S)(c:b.length<2)(_e:b.length<=1048576):CBy 99 #[v] w (.tuple #[.int .i64 (0:Nat),.int .i64 (0:Nat),.int .i64 (0:Nat)]):=by
 go_enter func99,ntmps99
 refine A4 ?_;iterate 10 refine aT ?_
 refine CU ?_;refine K8 ?_;iterate 8 refine aT ?_
 exact AG (AD (BX results99 (AF rfl) (AF rfl) (AF rfl)) λ_ _ a=>⟨rfl,a.1⟩)
theorem nP{c:Nat}(hv:AO w v (t::c::r).length 1 ((t::c::r).map b8) S)(hc:c<256)(ht:t<256)(h:c<128)(e:r.length<=1048576):CBy 99 #[v] w (.tuple #[.int .i64 (t:Nat),.int .i64 (c:Nat),.int .i64 (2:Nat)]):=by
 go_enter func99,ntmps99
 refine A4 ?_;iterate 10 refine aT ?_
 refine CU ?_;refine FU ?_;iterate 6 refine aT ?_
 refine Gh ?_;refine IL ?_;refine JU ?_;iterate 7 refine aT ?_
 refine K8 ?_;iterate 6 refine aT ?_
 refine ND ?_;refine JW ?_;refine HS ?_;refine aT ?_;refine Gh ?_;refine IL ?_;iterate 4 refine aT ?_
 exact AG (AD (BX results99 (AF rfl) (AF rfl) (AF rfl)) λ_ _ a=>⟨rfl,a.1⟩)
theorem nO{c:Nat}(hv:AO w v (t::c::r).length 1 ((t::c::r).map b8) S)(hc:c<256)(_f:t<256)(h:c=128)(e:r.length<=1048576):CBy 99 #[v] w (.tuple #[.int .i64 (0:Nat),.int .i64 (0:Nat),.int .i64 (0:Nat)]):=by
 go_enter func99,ntmps99
 refine A4 ?_;iterate 10 refine aT ?_
 refine CU ?_;refine FU ?_;iterate 6 refine aT ?_
 refine Gh ?_;refine IL ?_;refine JU ?_;iterate 7 refine aT ?_
 refine HP ?_;iterate 6 refine aT ?_
 refine K8 ?_;iterate 2 refine aT ?_
 refine k_3 ?_;iterate 3 refine aT ?_
 refine ZM ?_;refine aT ?_;iterate 2 refine k_3 ?_
 iterate 10 refine aT ?_
 exact AG (AD (BX results99 (AF rfl) (AF rfl) (AF rfl)) λ_ _ a=>⟨rfl,a.1⟩)
theorem nM{c:Nat}(hv:AO w v (t::c::r).length 1 ((t::c::r).map b8) S)(hc:c<256)(_f:t<256)(h:130<c)(e:r.length<=1048576):CBy 99 #[v] w (.tuple #[.int .i64 (0:Nat),.int .i64 (0:Nat),.int .i64 (0:Nat)]):=by
 go_enter func99,ntmps99
 refine A4 ?_;iterate 10 refine aT ?_
 refine CU ?_;refine FU ?_;iterate 6 refine aT ?_
 refine Gh ?_;refine IL ?_;refine JU ?_;iterate 7 refine aT ?_
 refine HP ?_;iterate 6 refine aT ?_
 refine HP ?_;iterate 2 refine aT ?_
 refine Kq ?_;iterate 3 refine aT ?_
 refine ZM ?_;refine aT ?_;iterate 2 refine k_3 ?_
 iterate 10 refine aT ?_
 exact AG (AD (BX results99 (AF rfl) (AF rfl) (AF rfl)) λ_ _ a=>⟨rfl,a.1⟩)
theorem Tl{c:Nat}(hv:AO w v (t::c::r).length 1 ((t::c::r).map b8) S)(hc:c<256)(_i:t<256)(h:128<c)(e:c<=130)(f:r.length+128<c)(g:r.length<=1048576):CBy 99 #[v] w (.tuple #[.int .i64 (0:Nat),.int .i64 (0:Nat),.int .i64 (0:Nat)]):=by
 go_enter func99,ntmps99
 refine A4 ?_;iterate 10 refine aT ?_
 refine CU ?_;refine FU ?_;iterate 6 refine aT ?_
 refine Gh ?_;refine IL ?_;refine JU ?_;iterate 7 refine aT ?_
 refine HP ?_;iterate 6 refine aT ?_
 refine HP ?_;iterate 2 refine aT ?_
 refine ES ?_;iterate 3 refine aT ?_
 refine ZM ?_;refine aT ?_;refine iD (by first|exact Ev.skip (λ_=>rfl)|exact BE (c:=(2+((c:Int)-128))) rfl (λ_=>rfl) rfl rfl (by rw[Ah (by omega) (by omega)])) ?_;refine iD (by first|exact Ev.skip (λ_=>rfl)|exact BM (p:=true) rfl (λ_=>rfl) rfl rfl (yE (by simp only[List.length_cons];omega))) ?_;iterate 10 refine aT ?_
 exact AG (AD (BX results99 (AF rfl) (AF rfl) (AF rfl)) λ_ _ a=>⟨rfl,a.1⟩)
theorem nR{x:Nat}(hv:AO w v (t::129::x::r).length 1 ((t::129::x::r).map b8) S)(ht:t<256)(hx:x<256)(j:r.length<=1048576):CBy 99 #[v] w (.tuple #[.int .i64 ((bif decide (x<128)then 0 else t:Nat):Nat),.int .i64 ((bif decide (x<128)then 0 else x:Nat):Nat),.int .i64 ((bif decide (x<128)then 0 else 3:Nat):Nat)]):=by
 have hc:129<256:=by decide
 have e:AO w (Ay 2 3 1 v) 1 1 [b8 x] S:=by have:=Iw (lo:=2) (hi:=3) hv (by decide) (by simp only[List.length_cons];omega);exact this
 obtain⟨i,f⟩:∃p,decide (x<128)=p:=⟨_,rfl⟩
 have g:=(CL x 128).trans f;rw[f]
 go_enter func99,ntmps99
 refine A4 ?_;cases i<;>
 (
  iterate 10 refine aT ?_
  refine CU ?_;refine FU ?_;iterate 6 refine aT ?_
  refine Gh ?_;refine IL ?_;refine iD (by exact Bu (c:=1) rfl gg rfl rfl (by decide)) ?_;iterate 7 refine aT ?_
  refine Gv ?_;iterate 6 refine aT ?_
  refine Gv ?_;iterate 2 refine aT ?_
  refine Ko ?_;iterate 3 refine aT ?_
  refine ZM ?_;refine aT ?_;refine iD (by first|exact Ev.skip (λ_=>rfl)|exact BE (c:=((3:Nat):Int)) rfl (λ_=>rfl) rfl rfl (by rw[Ah (by omega) (by omega)];omega)) ?_;refine PW ?_;iterate 10 refine aT ?_
  refine Pw ?_;refine iD (by exact Fa (a:=2) (b:=3) (v':=Ay (2) (3) 1 v) rfl gg rfl x7 yG (AW hv) rfl rfl (by decide) (by simp only[List.length_cons];omega) rfl) ?_;refine iD (by exact BU rfl gg rfl x7 (AW e)) ?_;iterate 3 refine aT ?_
  refine Br 2 ?_;change VOk _ _ _ _ _;iterate 2 refine aT ?_
  refine K0 ?_;iterate 8 refine aT ?_
  refine iD (by exact Bc (k:=0) rfl gg rfl rfl x7 yG (AW e) (by decide) (by decide)) ?_;refine iD (by exact Cb rfl gg rfl yL rfl (AW e) (rfl)) ?_;iterate 4 refine aT ?_
  refine Pp ?_;refine aT ?_;refine Pf ?_;refine iD (by exact AK rfl gg rfl rfl (λw=>Sb (v:=0) (u:=0) (z:=x) (by decide) hx rfl (by omega) _ _ w)) ?_;iterate 3 refine aT ?_
  refine Pv ?_;iterate 4 refine aT ?_
  refine Gv ?_;iterate 3 refine aT ?_
  refine As ?_;change VOk _ _ _ _ _;iterate 4 refine aT ?_
  refine iD (by exact BM rfl gg rfl rfl g) ?_;iterate 2 refine aT ?_
  refine iD (by first|exact Ev.skip (λ_=>rfl)|exact Ag (p:=false) rfl (λ_=>rfl) rfl rfl (by decide)) ?_;iterate 2 refine aT ?_
  refine k_3 ?_;iterate 3 refine aT ?_
  first
  |(
   iterate 7 refine aT ?_
   exact AG (AD (BX results99 (AF rfl) (AF rfl) (AF rfl)) λ_ _ h=>⟨rfl,h.1⟩)
   )
  |(
   iterate 5 refine aT ?_
   refine ND ?_;refine JW ?_;refine HS ?_;iterate 2 refine aT ?_
   refine Pw ?_;iterate 4 refine aT ?_
   exact AG (AD (BX results99 (AF rfl) (AF rfl) (AF rfl)) λ_ _ h=>⟨rfl,h.1⟩)
   )
 )
theorem nQ{x y:Nat}(hv:AO w v (t::130::x::y::r).length 1 ((t::130::x::y::r).map b8) S)(ht:t<256)(hx:x<256)(l:y<256)(C:r.length<=1048576):CBy 99 #[v] w (.tuple #[.int .i64 ((bif decide (x*256+y<256)then 0 else t:Nat):Nat),.int .i64 ((bif decide (x*256+y<256)then 0 else x*256+y:Nat):Nat),.int .i64 ((bif decide (x*256+y<256)then 0 else 4:Nat):Nat)]):=by
 have hc:130<256:=by decide
 have e:AO w (Ay 2 4 1 v) 2 1 [b8 x,b8 y] S:=by have:=Iw (lo:=2) (hi:=4) hv (by decide) (by simp only[List.length_cons];omega);exact this
 obtain⟨q,g⟩:∃p,decide (x*256+y<128)=p:=⟨_,rfl⟩
 obtain⟨A,f⟩:∃p,decide (x*256+y<256)=p:=⟨_,rfl⟩
 have h:=(CL (x*256+y) 128).trans g;have i:=(CL (x*256+y) 256).trans f;rw[f]
 go_enter func99,ntmps99
 refine A4 ?_;cases q<;>cases A<;>
 (
  iterate 10 refine aT ?_
  refine CU ?_;refine FU ?_;iterate 6 refine aT ?_
  refine Gh ?_;refine IL ?_;refine iD (by exact Bu (c:=2) rfl gg rfl rfl (by decide)) ?_;iterate 7 refine aT ?_
  refine Gv ?_;iterate 6 refine aT ?_
  refine Gv ?_;iterate 2 refine aT ?_
  refine Ko ?_;iterate 3 refine aT ?_
  refine ZM ?_;refine aT ?_;refine iD (by first|exact Ev.skip (λ_=>rfl)|exact BE (c:=((4:Nat):Int)) rfl (λ_=>rfl) rfl rfl (by rw[Ah (by omega) (by omega)];omega)) ?_;refine PW ?_;iterate 10 refine aT ?_
  refine TM ?_;refine iD (by exact Fa (a:=2) (b:=4) (v':=Ay (2) (4) 1 v) rfl gg rfl x7 yG (AW hv) rfl rfl (by decide) (by simp only[List.length_cons];omega) rfl) ?_;refine iD (by exact BU rfl gg rfl x7 (AW e)) ?_;iterate 3 refine aT ?_
  refine Br 3 ?_;change VOk _ _ _ _ _;iterate 2 refine aT ?_
  refine K0 ?_;iterate 8 refine aT ?_
  refine iD (by exact Bc (k:=0) rfl gg rfl rfl x7 yG (AW e) (by decide) (by decide)) ?_;refine iD (by exact Cb rfl gg rfl yL rfl (AW e) (rfl)) ?_;iterate 4 refine aT ?_
  refine Pp ?_;refine aT ?_;refine Pf ?_;refine iD (by exact AK rfl gg rfl rfl (λw=>Sb (v:=0) (u:=0) (z:=x) (by decide) hx rfl (by omega) _ _ w)) ?_;iterate 3 refine aT ?_
  refine Pv ?_;iterate 4 refine aT ?_
  refine K0 ?_;iterate 8 refine aT ?_
  refine iD (by exact Bc (k:=1) rfl gg rfl rfl x7 yG (AW e) (by decide) (by decide)) ?_;refine iD (by exact Cb rfl gg rfl yL rfl (AW e) (rfl)) ?_;iterate 4 refine aT ?_
  refine iD (by exact AK rfl gg rfl rfl (λw=>Rp (v:=x) (u:=x*256) (by omega) rfl _ _ w)) ?_;refine aT ?_;refine iD (by exact B1 rfl gg rfl (λw=>Nc l w)) ?_;refine iD (by exact AK rfl gg rfl rfl (λw=>Sb (v:=x) (u:=x*256) (z:=x*256+y) (by omega) l rfl rfl _ _ w)) ?_;iterate 3 refine aT ?_
  refine Pu ?_;iterate 4 refine aT ?_
  refine Gv ?_;iterate 3 refine aT ?_
  refine As ?_;change VOk _ _ _ _ _;iterate 4 refine aT ?_
  refine iD (by exact BM rfl gg rfl rfl h) ?_;iterate 2 refine aT ?_
  refine iD (by first|exact Ev.skip (λ_=>rfl)|exact Ag (p:=true) rfl (λ_=>rfl) rfl rfl (by decide)) ?_;iterate 2 refine aT ?_
  refine iD (by first|exact Ev.skip (λ_=>rfl)|exact BM rfl (λ_=>rfl) rfl rfl i) ?_;iterate 3 refine aT ?_
  first
  |(
   iterate 7 refine aT ?_
   refine AG ?_;refine AD (BX results99 (AF rfl) (AF rfl) (AF rfl)) ?_;intro ρ B j
   (first|exact⟨rfl,j.1⟩|(exfalso;have m:=yA g;have o:=yC f;omega))
   )
  |(
   iterate 5 refine aT ?_
   refine ND ?_;refine JW ?_;refine HS ?_;iterate 2 refine aT ?_
   refine TM ?_;iterate 4 refine aT ?_
   refine AG ?_;refine AD (BX results99 (AF rfl) (AF rfl) (AF rfl)) ?_;intro ρ B j
   (first|exact⟨rfl,j.1⟩|(exfalso;have m:=yA g;have o:=yC f;omega))
   )
 )
theorem nL(a:AO w v b.length 1 (b.map b8) S)(g:∀x∈b,x<256)(f:b.length<=1048576):CBy 99 #[v] w (.tuple #[.int .i64 ((Aw b).1:Nat),.int .i64 ((Aw b).2.1:Nat),.int .i64 ((Aw b).2.2:Nat)]):=by
 match b,a,g,f with
 | [],a,_,_=>exact Z3 w a (by simp) (by simp)
 | [t],a,_,_=>exact Z3 w a (by simp) (by simp)
 |t::c::r,a,g,f=>
  have h:=g t (by simp);have i:=g c (by simp);simp only[List.length_cons]at f;by_cases j:c<128
  .have e:Aw (t::c::r)=(t,c,2):=by simp only[Aw,yE j,cond_true]
   rw[e];exact nP w a i h j (by omega)
  .have e:Aw (t::c::r)=bif decide (c=129) && decide (1<=r.length)then(bif decide (r.getD 0 0<128)then(0,0,0)else(t,r.getD 0 0,3))else
    bif decide (c=130) && decide (2<=r.length)then(bif decide (r.getD 0 0*256+r.getD 1 0<256)then(0,0,0)else(t,r.getD 0 0*256+r.getD 1 0,4))else(0,0,0):=by
    simp only[Aw,yB j,cond_false]
   rw[e];by_cases p:c=129
   .subst p
    match r,a,g,f with
    | [],a,_,f=>exact Tl w a i h (by decide) (by decide) (by simp) (by simp)
    |x::r,a,g,f=>
     have o:=g x (by simp);have:=nR w a h o (by simp only[List.length_cons]at f;omega);have l:decide (1<=(x::r).length)=true:=yE (by simp);rw[l,List.getD_cons_zero];cases m:decide (x<128)<;>rw[m]at this<;>exact this
   .by_cases q:c=130
    .subst q
     match r,a,g,f with
     | [],a,_,f=>exact Tl w a i h (by decide) (by decide) (by simp) (by simp)
     | [x],a,_,f=>exact Tl w a i h (by decide) (by decide) (by simp) (by simp)
     |x::y::r,a,g,f=>
      have o:=g x (by simp);have A:=g y (by simp);have:=nQ w a h o A (by simp only[List.length_cons]at f;omega);have l:decide (2<=(x::y::r).length)=true:=yE (by simp);rw[l,List.getD_cons_succ,List.getD_cons_zero,List.getD_cons_zero];cases m:decide (x*256+y<256)<;>rw[m]at this<;>exact this
    .rw[yB p,yB q]
     by_cases z:c=128
     .exact nO w a i h z (by omega)
     .exact nM w a i h (by omega) (by omega)
theorem oL{o:Oper}{t:TypeId}{e j:TypeId}{h a:Nat}{D:Dat}(z:o.op=.call {callee:=.builtin .len,args:=#[x],argTypes:=#[t]})(g:AQ ops o s)(B:AE s x=.d h)(y:s.mem h=some (.row n a j D))
 (A:P.underlying t=some (.slice e)):Ev P ops w0 o s ⟨.v (.int .i64 (n:Nat)),[],[],[],[h]⟩:=by
 refine Ev.run _ _ g λρ S w hb q=> ?_
 have f:=AI s ρ x;rw[B]at f;obtain⟨F,l,E,m⟩:=w4 q y (RK.2 rfl);obtain⟨C,i,p,_⟩:=DX m l;simp only[SV.c]at f;rw[p]at f;simp[execOp,z,resolve,invoke,builtin,f,Builtin.len_,yU A,SV.c,goInt]
theorem qj:prog.built 61 []=some #[.int .i64 0,.slice none 0 0,.slice none 0 0]:=by kernel_rfl
theorem bk(t:Int):prog.built 61 [(0,.int .i64 t)]=some #[.int .i64 t,.slice none 0 0,.slice none 0 0]:=by kernel_rfl
theorem IA{w:World}:Ae w0 w (.agg #[.int .i64 0,.slice none 0 0,.slice none 0 0]) (AR noT):=by
 refine⟨λ_=>False,⟨[.int .i64 0,.slice none 0 0,.slice none 0 0],rfl,?_⟩,λk a=>a.elim⟩;simp only[noT,DN,DNs];exact⟨_,_,[],rfl,⟨none,0,rfl,yD _,rfl,.inl rfl⟩,⟨none,0,rfl,yD _,rfl,.inl rfl⟩,rfl⟩
theorem YL{w:World}(j:Nat){t:Int}(H:Rel w0 ρ s w)(G:ks.length=n)(g:s.mem j=some (.row n 3 61 (QF ks))):
 Ae w0 w (.agg #[.int .i64 t,.slice none 0 0,(ρ j).val]) (AR (.mk t [] ks)):=by
 subst G;obtain⟨hb,S,i⟩:=H;obtain⟨J,f1,f2,f3⟩:=i.good j _ g;refine⟨λk=>w0.heap.size<=k/\k<w.heap.size,⟨[.int .i64 t,.slice none 0 0,(ρ j).val],rfl,?_⟩,λk c=>c⟩;simp only[DN]
 have o:∀{m:Nm} {n a:Nat} {y:TypeId} {l:List Value},EC w w0.heap.size m n a y l->l.length=n*a->AO w m.val n a l (λk=>w0.heap.size<=k/\k<w.heap.size):=by
  intro m n a y l h p;have q:=DX h p;rcases h with⟨E,f⟩|⟨I,e,D,L,E,f,F,_⟩
  .obtain⟨C,e,z,A,B,K⟩:=q
   refine⟨C,e,z,A,B,.inl ?_⟩;subst f;exact zJ (by simpa using p)
  .exact Hq q λk c=>by subst c;exact⟨f,(z8.1 F).1⟩
 exact⟨_,_,J,rfl,⟨none,0,rfl,yD _,rfl,.inl rfl⟩,o f3 f1,LX (λk c=>⟨i.fr j k (by rw[g];rfl) c,i.lt j k (by rw[g];rfl) c⟩) f2⟩
def rdV:Nat->Value->List Nat->Value
 |0,_,_=>.slice none 0 0
 |f+1,v,b=>bif decide ((Aw b).2.2=0)||decide ((Aw b).2.1+(Aw b).2.2>b.length)then .slice none 0 0 else
  bif !(CB (Aw b).1)then Ay ((Aw b).2.2+(Aw b).2.1) b.length 1 v else
  match CC (A9 f) (Aw b).2.1 ((b.drop (Aw b).2.2).take (Aw b).2.1) []with
  |none=>.slice none 0 0
  |some _=>Ay ((Aw b).2.2+(Aw b).2.1) b.length 1 v
theorem Sj{w:World}:AO w (.slice none 0 0) 0 1 [] S:=⟨none,0,rfl,yD _,rfl,.inl rfl⟩
theorem N8{w:World}{j:Nat}(c:AO w v b.length 1 (b.map b8) S)(a:j<=b.length):AO w (Ay j b.length 1 v) (b.drop j).length 1 ((b.drop j).map b8) S:=by
 have:=Iw (lo:=j) (hi:=b.length) c a (yD _);rw[yQ,yQ,zT (by simp),<-RM]at this;rw[zH];exact this
theorem PE{w:World}(a:AO w v b.length 1 (b.map b8) S)(h:n+k<=b.length):AO w (Ay k (k+n) 1 v) ((b.drop k).take n).length 1 (((b.drop k).take n).map b8) S:=by
 have:=Iw (lo:=k) (hi:=k+n) a (by omega) (by omega);rw[yQ,yQ,uF1,<-RM,<-uB7]at this;rw[(HK h).1];exact this
theorem Om{w:World}{S:Nat->Prop}:∀(f:Nat) {v:Value} {b:List Nat},AO w v b.length 1 (b.map b8) S->AO w (rdV f v b) (A9 f b).2.1.length 1 ((A9 f b).2.1.map b8) S
 |0,v,b,_=>Sj
 |f+1,v,b,hv=>by
  simp only[rdV,A9];obtain⟨⟨tg,n,k⟩,c⟩:∃z,Aw b=z:=⟨_,rfl⟩
  rw[c];simp only;cases a:(decide (k=0)||decide (n+k>b.length))with
  |true=>exact Sj
  |false=>
   simp only[uC1,uE3]at a;simp only[cond_false];cases CB tg with
   |false=>simp only[IN,cond_true];exact N8 hv (by omega)
   |true=>
    simp only[z5,cond_false];cases CC (A9 f) n ((b.drop k).take n) []with
    |none=>exact Sj
    |some ks=>exact N8 hv (by omega)
theorem mU(rd:List Nat->Tr×List Nat×Bool)(n:Nat)(a:List Tr):CC rd n [] a=some a:=by cases n<;>simp[CC]
theorem ZA{l:List Nat}(c:0<l.length)(n:Nat)(a:List Tr):CC rd (n+1) l a=bif !(rd l).2.2||decide (a.length=20)then none else CC rd n (rd l).2.1 (a++[(rd l).1]):=by
 cases l with
 |nil=>simp at c
 |cons x r=>simp only[CC]
def cm(f:Nat):Prop:= ∀(v:Value) (b:List Nat) (S:Nat->Prop) (d:Nat) (w:World),d+f=9->AO w v b.length 1 (b.map b8) S->(∀x∈b,x<256)->b.length<=1048576->
    Calls prog 52 #[v,.int .i64 (d:Nat)] w λe c=> ∃a,e=.returned (.tuple #[a,rdV f v b,.bool (A9 f b).2.2])/\Ae w c a (AR (A9 f b).1)/\Bw w c
theorem WQ(hv:AO w v b.length 1 (b.map b8) S)(h8:∀x∈b,x<256)(hbl:b.length<=1048576)(hh:Aw b=(tg,n,k))(_h:n<65536/\k<=4/\tg<256/\d<=9)(j:k=0):Calls prog 52 #[v,.int .i64 (d:Nat)] w λe a=> ∃g,e=.returned (.tuple #[g,.slice none 0 0,.bool false])/\Ae w a g (AR (noT))/\Bw w a:=by
 go_enter func52,ntmps52
 refine A4 ?_;iterate 9 refine aT ?_
 refine me ?_;iterate 12 refine aT ?_
 refine iD (by exact Ag (p:=true) rfl gg rfl rfl (yE (by omega))) ?_;iterate 3 refine aT ?_
 refine ZM ?_;refine aT ?_;refine Mx ?_;refine k_3 ?_;iterate 3 refine aT ?_
 refine k_3 ?_;iterate 5 refine aT ?_
 refine JV ?_;iterate 4 refine aT ?_
 refine AG ?_;refine AD (BX results52 (Am rfl rfl yZ rfl yH rfl) (AF rfl) (AF rfl)) ?_;intro ρ a i;refine⟨_,rfl,?_,i.1⟩;exact IA
theorem WP(hv:AO w v b.length 1 (b.map b8) S)(h8:∀x∈b,x<256)(hbl:b.length<=1048576)(hh:Aw b=(tg,n,k))(h:n<65536/\k<=4/\tg<256/\d<=9)(j:k≠0)(l:n+k>b.length):Calls prog 52 #[v,.int .i64 (d:Nat)] w λe a=> ∃g,e=.returned (.tuple #[g,.slice none 0 0,.bool false])/\Ae w a g (AR (noT))/\Bw w a:=by
 go_enter func52,ntmps52
 refine A4 ?_;iterate 9 refine aT ?_
 refine me ?_;iterate 12 refine aT ?_
 refine NA ?_;iterate 3 refine aT ?_
 refine ZM ?_;refine aT ?_;refine Mx ?_;refine Kq ?_;iterate 3 refine aT ?_
 refine k_3 ?_;iterate 5 refine aT ?_
 refine JV ?_;iterate 4 refine aT ?_
 refine AG ?_;refine AD (BX results52 (Am rfl rfl yZ rfl yH rfl) (AF rfl) (AF rfl)) ?_;intro ρ a i;refine⟨_,rfl,?_,i.1⟩;exact IA
theorem gy(hv:AO w v b.length 1 (b.map b8) S)(h8:∀x∈b,x<256)(hbl:b.length<=1048576)(hh:Aw b=(tg,n,k))(h:n<65536/\k<=4/\tg<256/\d<=9)(l:k≠0)(m:n+k<=b.length)(j:8<d):Calls prog 52 #[v,.int .i64 (d:Nat)] w λe a=> ∃g,e=.returned (.tuple #[g,.slice none 0 0,.bool false])/\Ae w a g (AR (noT))/\Bw w a:=by
 go_enter func52,ntmps52
 refine A4 ?_;iterate 9 refine aT ?_
 refine me ?_;iterate 12 refine aT ?_
 refine NA ?_;iterate 3 refine aT ?_
 refine ZM ?_;refine aT ?_;refine Mx ?_;refine ES ?_;iterate 3 refine aT ?_
 refine Kq ?_;iterate 5 refine aT ?_
 refine JV ?_;iterate 4 refine aT ?_
 refine AG ?_;refine AD (BX results52 (Am rfl rfl yZ rfl yH rfl) (AF rfl) (AF rfl)) ?_;intro ρ a i;refine⟨_,rfl,?_,i.1⟩;exact IA
theorem gx(hv:AO w v b.length 1 (b.map b8) S)(h8:∀x∈b,x<256)(hbl:b.length<=1048576)(hh:Aw b=(tg,n,k))(z:n<65536/\k<=4/\tg<256/\d<=9)(D:k≠0)(q:n+k<=b.length)(C:d<=8)(A:CB tg=false):Calls prog 52 #[v,.int .i64 (d:Nat)] w λe g=> ∃v',e=.returned (.tuple #[v',Ay (k+n) b.length 1 v,.bool (Fg tg ((b.drop k).take n))])/\Ae w g v' (AR (.mk tg ((b.drop k).take n) []))/\Bw w g:=by
 have h:=PE hv q;have m:=(HK q).1;obtain⟨L,i⟩:∃L,(b.drop k).take n=L:=⟨_,rfl⟩
 rw[i]at h m;have j:∀x∈L,x<256:=λx B=>h8 x (DO (PA (i▸B)))
 rw[i]
 go_enter func52,ntmps52
 refine A4 ?_;iterate 9 refine aT ?_
 refine me ?_;iterate 12 refine aT ?_
 refine NA ?_;iterate 3 refine aT ?_
 refine ZM ?_;refine aT ?_;refine Mx ?_;refine ES ?_;iterate 3 refine aT ?_
 refine ES ?_;iterate 10 refine aT ?_
 refine IP ?_;refine ZT ?_;iterate 3 refine aT ?_
 refine IP ?_;refine Zc ?_;iterate 6 refine aT ?_
 refine iD (by exact A6 (cells:=#[.int .i64 (tg:Nat),.slice none 0 0,.slice none 0 0]) rfl gg rfl (bk _)) ?_;refine aT ?_;refine ZI ?_;iterate 5 refine aT ?_
 refine iD (by exact Ad (v:=.bool false) rfl gg rfl (eo func91) (λg hb=>by have:=S4 (tg:Int) g;rw[A]at this;exact this)) ?_;iterate 6 refine aT ?_
 refine iD (by exact Cs [] rfl rfl gg rfl (eo func63) (n:=L.length) (size:=1) (l:=L.map b8) (by simp) (λρ S g hb o=>Nl g (A5 h hb) (by omega))) ?_;refine aT ?_;refine iD (by exact Bh (vl:=[.d 53]) [12,53] rfl gg rfl rfl rfl y7 rfl (λρ S g _ o=>by have hh:=Cf (id:=53) o (by simp) rfl;exact⟨hh.1,by simp[SV.cs,SV.c,hh.2]⟩) rfl (by simp)) ?_;iterate 7 refine aT ?_
 refine iD (by exact Ad (v:=.bool (Fg tg L)) rfl gg rfl (eo func92) (λg hb=>br (bs:=L) (tg:Int) g (A5 h hb) (by omega) j)) ?_;refine ZI ?_;iterate 3 refine aT ?_
 refine AG ?_;refine AD (BX results52 (Am rfl rfl yZ rfl yH rfl) (AF rfl) (AF rfl)) ?_;intro ρ g y;refine⟨_,rfl,?_,y.1⟩;have:=Gl (t:=(tg:Int)) (b:=L) 53 y rfl;simpa[SV.c,SV.cs] using this
theorem gq{g:Nat}{K:Option (List Tr)}(hv:AO w v b.length 1 (b.map b8) S)(h8:∀x∈b,x<256)(hbl:b.length<=1048576)(hh:Aw b=(tg,n,k))(a0:n<65536/\k<=4/\tg<256/\d<=9)(U:k≠0)(hn:n+k<=b.length)(hd:d<=8)(hm:CB tg=true)(R:cm g)(a1:d+1+g=9)(C:CC (A9 g) n ((b.drop k).take n) []=K):Calls prog 52 #[v,.int .i64 (d:Nat)] w λe A=> ∃v',e=.returned (.tuple #[v',(match K with|none=>.slice none 0 0|some _=>Ay (k+n) b.length 1 v),.bool K.isSome])/\Ae w A v' (AR (match K with|none=>noT|some ks=>.mk tg [] ks))/\Bw w A:=by
 have T:=PE hv hn;have X:=(HK hn).1;obtain⟨L,V⟩:∃L,(b.drop k).take n=L:=⟨_,rfl⟩
 rw[V]at T X;have W:∀x∈L,x<256:=λx hx=>h8 x (DO (PA (V▸hx)))
 rw[V]at C;have hK:=C;clear C
 go_enter func52,ntmps52
 refine A4 ?_;iterate 9 refine aT ?_
 refine me ?_;iterate 12 refine aT ?_
 refine NA ?_;iterate 3 refine aT ?_
 refine ZM ?_;refine aT ?_;refine Mx ?_;refine ES ?_;iterate 3 refine aT ?_
 refine ES ?_;iterate 10 refine aT ?_
 refine IP ?_;refine ZT ?_;iterate 3 refine aT ?_
 refine IP ?_;refine Zc ?_;iterate 6 refine aT ?_
 refine iD (by exact A6 (cells:=#[.int .i64 (tg:Nat),.slice none 0 0,.slice none 0 0]) rfl gg rfl (bk _)) ?_;refine aT ?_;refine Pq ?_;iterate 5 refine aT ?_
 refine iD (by exact Ad (v:=.bool true) rfl gg rfl (eo func91) (λA hb=>by have:=S4 (tg:Int) A;rw[hm]at this;exact this)) ?_;iterate 6 refine aT ?_
 refine Bo (α:={x:Nat×(Nat×List Nat)×Value×List Tr // x.2.2.2.length=x.1/\x.1<=20/\x.2.1.2.length<=x.2.1.1/\x.2.1.2.length<=1048576/\(∀y∈x.2.1.2,y<256)/\AO w x.2.2.1 x.2.1.2.length 1 (x.2.1.2.map b8) S/\CC (A9 g) x.2.1.1 x.2.1.2 x.2.2.2=K}) (fun(x:{x:Nat×(Nat×List Nat)×Value×List Tr // x.2.2.2.length=x.1/\x.1<=20/\x.2.1.2.length<=x.2.1.1/\x.2.1.2.length<=1048576/\(∀y∈x.2.1.2,y<256)/\AO w x.2.2.1 x.2.1.2.length 1 (x.2.1.2.map b8) S/\CC (A9 g) x.2.1.1 x.2.1.2 x.2.2.2=K}) f=>⟨.v (f 0)::.v (.int .i64 (d:Nat))::.v (f 2)::.v (f 3)::.p 4 0::.v (f 5)::.v (f 6)::.v (.int .i64 (tg:Nat))::.v (f 8)::.v (f 9)::.v x.1.2.2.1::.v (Ay (k+n) b.length 1 v)::.p 12 0::fv f 75 13 [],AJ [(900,.row x.1.1 3 61 (QF x.1.2.2.2)),(12,.cells [.v (.int .i64 (tg:Nat)),.v (.slice none 0 0),.d 900] 61),(4,.cells [.v (.int .i64 0),.v (.slice none 0 0),.v (.slice none 0 0)] 61)]⟩) (λx=>x.1.2.1.1) ?_ (⟨(0,(n,L),Ay k (k+n) 1 v,[]),rfl,y6 _,by show L.length<=n;omega,by show L.length<=1048576;omega,W,T,hK⟩) ?_
 .rintro⟨⟨i,⟨m,l⟩,v',B⟩,o,hi,Y,J,H,I,G⟩ f
  simp only at o hi Y J H I G;obtain⟨q,E⟩:∃q,decide (l.length>0)=q:=⟨_,rfl⟩
  have h_q':=(Cr l.length 0).trans E;change VOk _ _ _ _ _;simp only[fv,Nat.reduceAdd];iterate 4 refine aT ?_
  refine iD (by exact BU rfl gg rfl x7 (AW I)) ?_;refine Kz ?_;refine aT ?_;cases q
  .refine aT ?_
   have Q:K=some B:=by rw[<-G,List.eq_nil_of_length_eq_zero (by have:=yC E;omega:l.length=0),mU]
   refine As ?_;change VOk _ _ _ _ _;iterate 4 refine aT ?_
   refine Pq ?_;iterate 3 refine aT ?_
   refine AG ?_;refine AD (BX results52 (Am rfl rfl yZ rfl yH rfl) (AF rfl) (AF rfl)) ?_;intro ρ A N;first|(subst C;exact⟨_,rfl,IA,N.1⟩)|(subst Q;refine⟨_,rfl,?_,N.1⟩;have:=YL (t:=(tg:Int)) (ks:=B) (n:=i) 900 N o rfl;simpa[SV.c,SV.cs] using this)
  .refine aT ?_
   obtain⟨m,rfl⟩:∃j,m=j+1:=⟨m-1,by have:=yA E;omega⟩
   have F:=Rz g l H J;obtain⟨q2,h⟩:∃q,(A9 g l).2.2=q:=⟨_,rfl⟩
   obtain⟨q3,z⟩:∃q,decide (i=20)=q:=⟨_,rfl⟩
   have M:=(CM i 20).trans z;cases q2<;>cases q3<;>
   (
    iterate 14 refine aT ?_
    refine Px ?_;refine iD (by first|exact DL (D:=AR (A9 g l).1) (ys:=[rdV g v' l,.bool true]) [] rfl rfl gg rfl (eo func52) (λρ S A hb _=>by have:=R _ _ _ (d+1) A (by omega) (A5 I hb) H J;rw[h]at this;exact this)|exact DL (D:=AR (A9 g l).1) (ys:=[rdV g v' l,.bool false]) [] rfl rfl gg rfl (eo func52) (λρ S A hb _=>by have:=R _ _ _ (d+1) A (by omega) (A5 I hb) H J;rw[h]at this;exact this)) ?_;iterate 4 refine aT ?_
    refine Pq ?_;iterate 11 refine aT ?_
    refine iD (by first|exact Ev.skip (λ_=>rfl)|exact oL rfl (λ_=>rfl) rfl rfl yO) ?_;refine iD (by first|exact Ev.skip (λ_=>rfl)|exact Ag rfl (λ_=>rfl) rfl rfl M) ?_;iterate 2 refine aT ?_
    first
    |(
     refine aT ?_;have C:K=none:=by rw[<-G,ZA (yA E),h,o,z];rfl
     iterate 2 refine aT ?_
     refine JV ?_;refine Pq ?_;iterate 3 refine aT ?_
     refine AG ?_;refine AD (BX results52 (Am rfl rfl yZ rfl yH rfl) (AF rfl) (AF rfl)) ?_;intro ρ A N;first|(subst C;exact⟨_,rfl,IA,N.1⟩)|(subst Q;refine⟨_,rfl,?_,N.1⟩;have:=YL (t:=(tg:Int)) (ks:=B) (n:=i) 900 N o rfl;simpa[SV.c,SV.cs] using this)
     )
    |(
     iterate 6 refine aT ?_
     refine iD (by exact Ty (n:=3) (l:=[.fn (AN 0) (.d 67),.fn (AN 1) (.d 67),.fn (AN 2) (.d 67)]) [67] rfl rfl gg rfl (λρ S A O=>DC _) rfl rfl qw) ?_;refine iD (by exact af (id:=900) (ys:=83) (n:=i) (k:=1) (k':=1) (size:=3) (QF (B++[(A9 g l).1])) [900,83,67] rfl rfl gg rfl rfl rfl rfl rfl (yD _) yO aj (by decide) (by simp only[maxLen];omega) (by omega) (by simp) (by simp) (λρ S A O=>by obtain⟨c,h1,h2⟩:=Cd (id:=67) O (by simp) rfl;exact(fn3 h1 (CS h2)).2▸HB h2) (λρ S A xs hb O Z=>by obtain⟨c,h1,h2⟩:=Cd (id:=67) O (by simp) rfl;rw[(fn3 h1 (CS h2)).2];exact dC (Ur (λk U=>⟨67,by simp,rfl,U⟩) h2) (LX (λk U=>⟨900,by simp,rfl,U⟩) Z))) ?_;refine aT ?_;refine iD (by exact Bh (vl:=[.d 84]) [12,84] rfl gg rfl rfl rfl sizeOf59 rfl (λρ S A _ O=>by have hh:=Cf (id:=84) O (by simp) rfl;exact⟨hh.1,by simp[SV.cs,SV.c,hh.2]⟩) rfl (by simp)) ?_;refine aT ?_;refine⟨⟨(i+1,(m,(A9 g l).2.1),rdV g v' l,B++[(A9 g l).1]),by simp[o],by show i+1<=20;have:=yC z;omega,by show(A9 g l).2.1.length<=m;have:=(F.2.2.1 h).2;omega,by show(A9 g l).2.1.length<=1048576;have:=(F.2.2.1 h).2;omega,λy hy=>H y (F.2.2.2 y hy),Om g I,?_⟩,by show m<m+1;omega,?_⟩
     .show CC (A9 g) m (A9 g l).2.1 (B++[(A9 g l).1])=K
      rw[ZA (yA E),h,o,z]at G;exact G
     exact(Ar (λi=>i==1||i==4||i==7||i==10||i==11||i==12) [83,13,67]).trans2 (λf=>Dk 84 900 (by decide) rfl)
     )
   )
 .refine(Ar (λi=>i==1||i==4||i==7||i==10||i==11||i==12) []).trans2 (λf=> ?_)
  refine(N1 900 3 61 (QF []) (λw=>by trivial) (m':=[(12,.cells [.v (.int .i64 (tg:Nat)),.v (.slice none 0 0),.d 900] 61),(4,.cells [.v (.int .i64 0),.v (.slice none 0 0),.v (.slice none 0 0)] 61)]) rfl rfl (λρ _=>rfl) (λρ hv=> ?_));simp[JG,BQ,Blk.sim,SV.cs,SV.c,hv,Bg]
theorem Z2(l:∀x∈b,x<256):(Aw b).2.1<65536/\(Aw b).2.2<=4/\(Aw b).1<256:=by
 obtain⟨⟨tg,n,k⟩,a⟩:∃z,Aw b=z:=⟨_,rfl⟩
 by_cases h:k=0
 .subst h
  have:Aw b=(0,0,0):=by
   unfold Aw at a⊢;split at a
   .rename_i t c r
    cases e:decide (c<128)<;>cases f:(decide (c=129) && decide (1<=r.length))<;>cases g:(decide (c=130) && decide (2<=r.length))<;>rw[e,f,g]at a<;>cases i:decide (r.getD 0 0<128)<;>cases j:decide (r.getD 0 0*256+r.getD 1 0<256)<;>(try rw[i]at a)<;>(try rw[j]at a)<;>simp at a⊢
   .rfl
  rw[this];decide
 .obtain⟨e,f,_,g⟩:=Z5 l a h
  have:(Ao n).length<=3:=pO e;rw[a];exact⟨e,by show k<=4;omega,f⟩
theorem Ry:∀f,cm f
 |0=>λv b S d w y i g c=>by
  obtain⟨j,l,m⟩:=Z2 g;obtain⟨⟨tg,n,k⟩,e⟩:∃z,Aw b=z:=⟨_,rfl⟩
  rw[e]at j l m;have a:n<65536/\k<=4/\tg<256/\d<=9:=⟨j,l,m,by omega⟩
  simp only[rdV,A9];by_cases h:k=0
  .exact WQ w i g c e a h
  .by_cases o:n+k>b.length
   .exact WP w i g c e a h o
   .exact gy w i g c e a h (by omega) (by omega)
 |f+1=>λv b S d w y i g c=>by
  obtain⟨j,l,m⟩:=Z2 g;obtain⟨⟨tg,n,k⟩,e⟩:∃z,Aw b=z:=⟨_,rfl⟩
  rw[e]at j l m;have a:n<65536/\k<=4/\tg<256/\d<=9:=⟨j,l,m,by omega⟩
  simp only[rdV,A9,e];by_cases h:k=0
  .rw[yE h];exact WQ w i g c e a h
  .rw[yB h]
   by_cases o:n+k>b.length
   .rw[yE o];exact WP w i g c e a h o
   .rw[yB o]
    simp only[Bool.or_self,cond_false];cases q:CB tg with
    |false=>exact gx w i g c e a h (by omega) (by omega) q
    |true=>
     obtain⟨K,p⟩:∃K,CC (A9 f) n ((b.drop k).take n) []=K:=⟨_,rfl⟩
     have:=gq w i g c e a h (by omega) (by omega) q (Ry f) (by omega) p;simp only[z5,cond_false];rw[p];cases K<;>exact this
theorem sN(hv:AO w v b.length 1 (b.map b8) S)(_h:∀x∈b,x<256)(f:b.length<=1048576)(i:b.length>2048):Calls prog 25 #[v] w λe a=> ∃c,e=.returned (.tuple #[c,.int .i64 4])/\Ae w a c (AR (noT))/\Bw w a:=by
 go_enter func25,ntmps25
 refine A4 ?_;iterate 9 refine aT ?_
 refine CU ?_;refine Pk ?_;iterate 4 refine aT ?_
 refine JV ?_;iterate 3 refine aT ?_
 refine AG ?_;refine AD (Av results25 (Am rfl rfl yZ rfl yH rfl) (AF rfl)) ?_;intro ρ a g;refine⟨_,rfl,?_,g.1⟩;exact IA
theorem sM(hv:AO w v b.length 1 (b.map b8) S)(j:∀x∈b,x<256)(g:b.length<=1048576){t:Tr}(m:b.length<=2048)(h:A9 8 b=(t,r,false)):Calls prog 25 #[v] w λe a=> ∃i,e=.returned (.tuple #[i,.int .i64 2])/\Ae w a i (AR (noT))/\Bw w a:=by
 have hrs:=Om 8 hv;rw[h]at hrs
 go_enter func25,ntmps25
 refine A4 ?_;iterate 9 refine aT ?_
 refine CU ?_;refine FS ?_;iterate 6 refine aT ?_
 refine iD (by exact DL (D:=AR t) (ys:=[rdV 8 v b,.bool false]) [] rfl rfl gg rfl (eo func52) (λρ S a hb _=>by have:=Ry 8 _ _ _ 1 a rfl (A5 hv hb) j g;rw[h]at this;exact this)) ?_;iterate 5 refine aT ?_
 refine k_8 ?_;iterate 10 refine aT ?_
 refine TN ?_;refine k_3 ?_;iterate 5 refine aT ?_
 refine JV ?_;refine k_8 ?_;iterate 2 refine aT ?_
 refine AG ?_;refine AD (Av results25 (Am rfl rfl yZ rfl yH rfl) (AF rfl)) ?_;intro ρ a l;refine⟨_,rfl,?_,l.1⟩;exact IA
theorem sL(hv:AO w v b.length 1 (b.map b8) S)(h8:∀x∈b,x<256)(hbl:b.length<=1048576){t:Tr}(j:b.length<=2048)(hz:A9 8 b=(t,r,true))(i:r.length>0):Calls prog 25 #[v] w λe a=> ∃g,e=.returned (.tuple #[g,.int .i64 2])/\Ae w a g (AR (noT))/\Bw w a:=by
 have hrs:=Om 8 hv;rw[hz]at hrs
 go_enter func25,ntmps25
 refine A4 ?_;iterate 9 refine aT ?_
 refine CU ?_;refine FS ?_;iterate 6 refine aT ?_
 refine Zm ?_;iterate 5 refine aT ?_
 refine k_8 ?_;iterate 10 refine aT ?_
 refine TN ?_;refine Kq ?_;iterate 5 refine aT ?_
 refine JV ?_;refine k_8 ?_;iterate 2 refine aT ?_
 refine AG ?_;refine AD (Av results25 (Am rfl rfl yZ rfl yH rfl) (AF rfl)) ?_;intro ρ a h;refine⟨_,rfl,?_,h.1⟩;exact IA
theorem sK(hv:AO w v b.length 1 (b.map b8) S)(h8:∀x∈b,x<256)(hbl:b.length<=1048576){t:Tr}(j:b.length<=2048)(hz:A9 8 b=(t,r,true))(i:r.length=0):Calls prog 25 #[v] w λe a=> ∃h,e=.returned (.tuple #[h,.int .i64 0])/\Ae w a h (AR (t))/\Bw w a:=by
 have hrs:=Om 8 hv;rw[hz]at hrs
 go_enter func25,ntmps25
 refine A4 ?_;iterate 9 refine aT ?_
 refine CU ?_;refine FS ?_;iterate 6 refine aT ?_
 refine Zm ?_;iterate 5 refine aT ?_
 refine k_8 ?_;iterate 10 refine aT ?_
 refine TN ?_;refine ES ?_;iterate 7 refine aT ?_
 refine k_8 ?_;iterate 2 refine aT ?_
 refine AG ?_;refine AD (Av results25 (Am rfl rfl yZ rfl yH rfl) (AF rfl)) ?_;intro ρ a g;exact⟨_,rfl,Hs 13 g rfl,g.1⟩
theorem Uk(f:AO w v b.length 1 (b.map b8) S)(c:∀x∈b,x<256)(a:b.length<=1048576):Calls prog 25 #[v] w λe j=> ∃i,e=.returned (.tuple #[i,.int .i64 (rdT b).2])/\Ae w j i (AR ((rdT b).1))/\Bw w j:=by
 unfold rdT;by_cases h:b.length>2048
 .rw[yE h];exact sN w f c a h
 .rw[yB h]
  obtain⟨⟨t,r,m⟩,g⟩:∃z,A9 8 b=z:=⟨_,rfl⟩
  rw[g];cases m with
  |false=>exact sM w f c a (by omega) g
  |true=>
   by_cases l:r.length>0
   .have e:isNil r=false:=yB (by omega)
    simp only[e];exact sL w f c a (by omega) g l
   .have e:isNil r=true:=yE (by omega)
    simp only[e];exact sK w f c a (by omega) g (by omega)
end Go.Proofs.YtafbhakmkbehiaaGreatDoor
