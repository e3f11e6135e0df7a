import Derived.Test.YtefpajmkaaielaaGreatDoorW21
import Derived.Test.YtefpajmkaaielaaGreatDoorW25
open Go.Proofs.Tryz
set_option maxHeartbeats 4000000
set_option maxRecDepth 100000
namespace Go.Proofs.YtefpajmkaaielaaGreatDoor
open Go.RowKit Go.Vx
variable{ca:Bool}{P S T b dw ky:List Nat}{ks:List Tr}{a d f g i n pa r s u us x:Nat}{B:Nat→List Nat}{p:Tr→Prop}
open TollMont
open Go.Toll (Gw)
open TollEc (F pp cb Jp Pt AZ add base nn neg)
open TollSha (sha Ap An Bl BE)
theorem mBl(h:r<R):TollBy.beV (bl r) 0=r:=by
 have e:=Hv (Es r) (Gr r);have g: ∀n:Nat,bl n=(List.range 32).map (byt n):=fun _=>rfl
 refine bytes_inj (Ny (Es r) (Gr r)) h fun i hi=> ?_
 have:=congrArg (fun l:List Nat=>l.getD i 0) e;simpa[g,List.getD,hi] using this
theorem mTb(h:r<R):tbN (tN (bl r))=(bl r,0)∧tbB (tN (bl r))=r:=by
 have e:=aa (Es r);refine⟨e,?_⟩;rw[tbB,e];exact mBl h
theorem mTn(l:List Nat):Ag (tN l) 2=true:=
 IU (by decide) (by decide) (by show EX (BP l)=true;exact UN.1)
theorem mSr(r t:Nat):Ag (B1 r t) 1=true:=by
 refine TJ (by decide) (by decide) (by show 2≤20;decide) ?_;show(!Ag (tN (bl r)) 2||(!Ag (tN (bl t)) 2||false))=false;rw[mTn,mTn];rfl
theorem mSl(r t:Nat):(AF (B1 r t)).length≤96:=by
 have h:=Nq (B1 r t);have h1:=Ic (bl r);have h2:=Ic (bl t);rw[Es]at h1 h2;simp only[B1,BH,tN,wt,wts,List.length_nil]at h
 have e:(AF (B1 r t)).length=2+((BP (bl r)).length+2)+((BP (bl t)).length+2):=by
  have l1:(Am (BP (bl r)).length).length=1:=by unfold Am;rw[decide_eq_true (by omega:(BP (bl r)).length<128)];rfl
  have l2:(Am (BP (bl t)).length).length=1:=by unfold Am;rw[decide_eq_true (by omega:(BP (bl t)).length<128)];rfl
  have b1:AF (tN (bl r))=tb 2::Am (BP (bl r)).length++BP (bl r):=RE _ _;have b2:AF (tN (bl t))=tb 2::Am (BP (bl t)).length++BP (bl t):=RE _ _;have e3:bb [] [tN (bl r),tN (bl t)]=AF (tN (bl r))++AF (tN (bl t)):=by rw[RR,RR];simp[bb]
  have e4:(bb [] [tN (bl r),tN (bl t)]).length=(BP (bl r)).length+2+((BP (bl t)).length+2):=by rw[e3,b1,b2];simp[l1,l2];omega
  have e5:AF (B1 r t)=[tb 48]++Am (bb [] [tN (bl r),tN (bl t)]).length++bb [] [tN (bl r),tN (bl t)]:=by simp only[B1,BH,AF]
  rw[e5];have l3:(Am (bb [] [tN (bl r),tN (bl t)]).length).length=1:=by unfold Am;rw[decide_eq_true (by omega:(bb [] [tN (bl r),tN (bl t)]).length<128)];rfl
  rw[List.length_append,List.length_append,l3,e4];show 1+1+_=_;omega
 omega
theorem iR{t:Nat}(hr:r<R)(ht:t<R):sgT (wrT (B1 r t)).1=some (r,t):=by
 have hl:(AF (B1 r t)).length≤2048:=Nat.le_trans (mSl r t) (by decide);rw[La (mSr r t) hl];unfold sgT;rw[TY (mSr r t) hl];show Jx (B1 r t)=_;have a:=mTb hr;have b:=mTb ht;simp only[B1,BH,Jx,IZ,a.1,b.1,a.2,b.2];rfl
def mC(a s f g:Nat)(ca:Bool)(pa us:Nat)(ky:List Nat):Crt:=⟨7,[110,a],[110,s],(f:Nat),(g:Nat),ky,ca,(pa:Nat),(us:Nat)⟩
structure mF(a s f g:Nat)(ca:Bool)(pa us:Nat)(ky:List Nat):Prop where
 a1:97≤a
 a2:a<106
 s1:97≤s
 s2:s<106
 f2:f<1001
 g2:g<1001
 ba:isC (CR (B4 (Da ca (pa:Nat))))=ca∧KD (CR (B4 (Da ca (pa:Nat))))=(pa:Nat)∧pa<6∧(ca|| !decide ((pa:Int)≠0))=true
 us:(BF (CR (B4 (iT ((us:Int) %4))))=(us:Int) %4∧BF (CR (B4 (iT ((us:Int)/4))))=(us:Int)/4)∧us<16∧(usB (us:Nat)==ca)=true
 ky:kyB ky=true
theorem MX: ∀now,now<1001→BF (iT (now:Nat))=(now:Nat)∧(EX (BP (CV now))=true∧(BP (CV now)).length≤2):=by decide+kernel
theorem Pf: ∀a,a<106→97≤a→Er 12 [110,a]=true∧Fg [110,a]=true:=by decide+kernel
theorem rS{t:Int}(hd:d≤8)(h1:Cq t=true)(h2:ks.length≤20)(h: ∀k∈ks,Ag k (d+1)=true):Ag (.mk t [] ks) d=true:=by
 refine TJ hd h1 h2 ?_;rw[PU];rw[List.any_eq_false];intro k hk;rw[h k hk];decide
theorem rI(hd:d≤8)(hn:n<1001):Ag (iT (n:Nat)) d=true:=IU hd (by decide) (MX n hn).2.1
theorem Bz{a:Tr}{l:List Tr}(h:p a)(hl: ∀k∈l,p k): ∀k∈a::l,p k:=fun k hk=>by
 rcases List.mem_cons.1 hk with rfl|hk
 ·exact h
 ·exact hl k hk
theorem Ed: ∀k∈([]:List Tr),p k:=fun _ h=>by cases h
theorem Tb(hd:d≤8)(hb:Nx (0::b)=true):Ag (EG b) d=true:=IU hd (by decide) hb
theorem Yo(b:List Nat):Nx (0::b)=true:=by
 show LQ 0 b=true;unfold LQ;rw[decide_eq_false (by decide: ¬(0:Nat)≥8)];cases h:decide (b.length+1=1)
 ·show decide (md (Ir (0::b)) 0=0)=true
  exact decide_eq_true (show Ir (0::b) %2^0=0 by rw[Nat.pow_zero,Nat.mod_one])
 ·rfl
theorem Ta(hd:d≤5)(h1:97≤a)(h2:a<106):Ag (Dx [110,a]) d=true:=by
 have h:=IU (t:=12) (b:=[110,a]) (d:=d+2) (by omega) (by decide) (Pf a h2 h1).1;exact rS (by omega) (by decide) (by simp) (Bz (rS (by omega) (by decide) (by simp) (Bz (IU (by omega) (by decide) (by decide)) (Bz h Ed))) Ed)
theorem mBr(h:mF a s f g ca pa us ky)(hd:d=1∨d=2):Ag (mC a s f g ca pa us ky).body d=true:=by
 have hw:Ag (Dx [110,a]) (d+1)=true:=Ta (by omega) h.a1 h.a2;have hs:Ag (Dx [110,s]) (d+1)=true:=Ta (by omega) h.s1 h.s2;have hf:Ag (iT (f:Nat)) (d+1+1)=true:=rI (by omega) h.f2;have hg:Ag (iT (g:Nat)) (d+1+1)=true:=rI (by omega) h.g2;have hk:Ag (EG ky) (d+1+1)=true:=Tb (by omega) (Yo _);have hp: ∀x e,e≤8→Ag (B4 x) e=true:=fun x e he=>IU he (by decide) rfl
 rcases hd with rfl|rfl<;>exact rS (by decide) (by decide) (by simp) (Bz (by decide+kernel) (Bz (show Ag (iT 7) _=true by decide+kernel) (Bz (by decide+kernel) (Bz hw (Bz (rS (by decide) (by decide) (by simp) (Bz hf (Bz hg Ed))) (Bz hs (Bz (rS (by decide) (by decide) (by simp) (Bz (by decide+kernel) (Bz hk Ed))) (Bz (rS (by decide) (by decide) (by simp) (Bz (rS (by decide) (by decide) (by simp) (Bz (rS (by decide) (by decide) (by simp) (Bz (by decide+kernel) (Bz (by decide+kernel) (Bz (hp _ _ (by decide)) Ed)))) (Bz (rS (by decide) (by decide) (by simp) (Bz (by decide+kernel) (Bz (by decide+kernel) (Bz (hp _ _ (by decide)) Ed)))) (Bz (rS (by decide) (by decide) (by simp) (Bz (by decide+kernel) (Bz (hp _ _ (by decide)) Ed))) Ed)))) Ed)) Ed))))))))
theorem mWr(h:mF a s f g ca pa us ky)(r t:Nat):Ag ((mC a s f g ca pa us ky).whole r t) 1=true:=
 rS (by decide) (by decide) (by simp) (Bz (mBr h (.inr rfl)) (Bz (by decide+kernel) (Bz (Tb (by decide) (Yo _)) Ed)))
theorem kt(h:kyB ky=true):ky.length=65:=by
 unfold kyB at h;simp only[Bool.and_eq_true,decide_eq_true_eq]at h;exact h.1
theorem wtI(h:n<1001):wt (iT (n:Nat))≤12:=by
 have:=(MX n h).2.2;show(BP (CV n)).length+0+10≤12;omega
theorem wtJ: ∀n:Nat,n<16→wt (B4 (iT ((n:Int) %4)))≤32∧wt (B4 (iT ((n:Int)/4)))≤32:=by decide+kernel
theorem wtB: ∀n:Nat,n<6→ ∀ca:Bool,wt (B4 (Da ca (n:Nat)))≤64:=by decide+kernel
theorem U6(h:mF a s f g ca pa us ky):wt (mC a s f g ca pa us ky).body≤1024:=by
 have h1:=wtI h.f2;have h2:=wtI h.g2;have h3:=wtJ us h.us.2.1;have h4:=wtB pa h.ba.2.2.1 ca;have h5:=kt h.ky;have e1:wt (iT 2)=11:=by decide
 have e2:wt (iT 7)=11:=by decide
 simp only[mC,Crt.body,BH,Dx,B0,EV,EG,utT,wt,wts,e1,e2,List.length_cons,List.length_nil,h5,E4];omega
theorem iQ(h:mF a s f g ca pa us ky):(AF (mC a s f g ca pa us ky).body).length≤2048:=by
 have:=Nq (mC a s f g ca pa us ky).body;have:=U6 h;omega
theorem mWl(h:mF a s f g ca pa us ky)(r t:Nat):(AF ((mC a s f g ca pa us ky).whole r t)).length≤2048:=by
 have h1:=Nq ((mC a s f g ca pa us ky).whole r t);have h2:=U6 h;have h3:(wrT (B1 r t)).1.length≤96:=by rw[La (mSr r t) (Nat.le_trans (mSl r t) (by decide))];exact mSl r t
 have e:wt ((mC a s f g ca pa us ky).whole r t)=wt (mC a s f g ca pa us ky).body+(wt (BH [B0 E4])+((0::(wrT (B1 r t)).1).length+0+10+0))+10:=by
  simp only[Crt.whole,BH,wt,wts,EG,List.length_nil,List.length_cons];omega
 have e3:wt (BH [B0 E4])=28:=by decide
 rw[e,e3,List.length_cons]at h1;omega
theorem gq(h:mF a s f g ca pa us ky):(wrT (mC a s f g ca pa us ky).body).1=AF (mC a s f g ca pa us ky).body:=by rw[La (mBr h (.inl rfl)) (iQ h)]
theorem iO(h:mF a s f g ca pa us ky)(r t:Nat):Fv ((mC a s f g ca pa us ky).whole r t)=mC a s f g ca pa us ky:=by
 show(⟨BF (iT 7),[110,a],[110,s],BF (iT (f:Nat)),BF (iT (g:Nat)),ky,isC (CR (B4 (Da ca (pa:Nat)))),KD (CR (B4 (Da ca (pa:Nat)))),BF (CR (B4 (iT ((us:Int)/4))))*4+BF (CR (B4 (iT ((us:Int) %4))))⟩:Crt)=_;rw[(MX f h.f2).1,(MX g h.g2).1,h.ba.1,h.ba.2.1,h.us.1.1,h.us.1.2,show BF (iT 7)=7 by decide+kernel];unfold mC;congr 1
 omega
theorem Px(h:mF a s f g ca pa us ky):Df (mC a s f g ca pa us ky)=true:=by
 have h1:=h.f2;have h2:=h.g2;have h3:=h.ba.2.2.1;have h4:=h.us.2.1;have w1:wiB (f:Nat) 0 4611686018427387903=true:=C3.2 (by omega);have w2:wiB (g:Nat) 0 4611686018427387903=true:=C3.2 (by omega);have w3:wiB (pa:Nat) 0 5=true:=C3.2 (by omega);have w4:wiB (us:Nat) 0 15=true:=C3.2 (by omega);simp only[Df,mC,h.ky,w1,w2,w3,w4,(Pf a h.a2 h.a1).2,(Pf s h.s2 h.s1).2,h.us.2.2,Bool.and_true,Bool.true_and,show wiB 7 1 4611686018427387903=true by decide];exact h.ba.2.2.2
theorem mRd{a s f g pa us:Nat}{ca:Bool}{ky:List Nat}(h:mF a s f g ca pa us ky){r t:Nat}(hr:r<R)(ht:t<R):rdC (wrT ((mC a s f g ca pa us ky).whole r t)).1=some (mC a s f g ca pa us ky,r,t):=by
 have hw:=La (mWr h r t) (mWl h r t);unfold rdC;rw[hw];show(bif decide ((rdT (AF ((mC a s f g ca pa us ky).whole r t))).2≠0)then none else _)=_;rw[TY (mWr h r t) (mWl h r t)];show Hg ((mC a s f g ca pa us ky).whole r t) (AF ((mC a s f g ca pa us ky).whole r t))=_;unfold Hg;have e1:HT ((mC a s f g ca pa us ky).whole r t)=(us:Int) %4:=h.us.1.1;have e2:Hd ((mC a s f g ca pa us ky).whole r t)=(us:Int)/4:=h.us.1.2;have h4:=h.us.2.1;have w1:wiB ((us:Int) %4) 0 3=true:=C3.2 (by omega);have w2:wiB ((us:Int)/4) 0 3=true:=C3.2 (by omega);have e3:sgT (Bv (AL [2] ((mC a s f g ca pa us ky).whole r t)))=some (r,t):=iR hr ht;rw[e1,e2,w1,w2,e3,iO h];show I7 (mC a s f g ca pa us ky) _ (some (r,t))=_;show(bif !Df (mC a s f g ca pa us ky)then none else bif !decide ((wrT ((mC a s f g ca pa us ky).whole r t)).1=AF ((mC a s f g ca pa us ky).whole r t))then none else some (mC a s f g ca pa us ky,r,t))=_;rw[Px h,hw];simp
theorem iM(h:mF a s f g ca pa us ky)(k8: ∀x∈ky,x<256):(mC a s f g ca pa us ky).Fit:=by
 have h1:=h.a2;have h2:=h.s2;refine IV ?_ ?_ k8 (Px h)
 ·intro x hx
  simp only[mC,List.mem_cons,List.not_mem_nil,or_false]at hx;omega
 ·intro x hx
  simp only[mC,List.mem_cons,List.not_mem_nil,or_false]at hx;omega
open TollSimd (BQ Bd Dn Jf frc Gi frl D9)
open TollEc (TT ZP Bi TA)
theorem iL(d h:Nat):nV3 d h=Bd (bl d++bl h):=by
 have e1:([List.replicate 32 1,[0],bl d,bl h]:List (List Nat)).flatten=List.replicate 32 1++0::(bl d++bl h):=by simp
 have e2: ∀v:List Nat,([v,[1],bl d,bl h]:List (List Nat)).flatten=v++1::(bl d++bl h):=fun v=>by simp
 have e3: ∀v:List Nat,([v]:List (List Nat)).flatten=v:=fun v=>by simp
 unfold nV3 nV2 nK2 nV1 nK1 Bd;simp only[e1,e2,e3]
theorem mT0{k w:Nat}(hv:i*k %nn=1)(hw:w %nn≠0):i*w %nn≠0:=fun h=>hw (by
 have e:k*(i*w) %nn=0:=by rw[Nat.mul_mod,h,Nat.mul_zero,Nat.zero_mod]
 rw[←Nat.mul_assoc,Nat.mul_comm k,Nat.mul_mod,hv,Nat.one_mul,Nat.mod_mod]at e;exact e)
structure mK(d i:Nat)(dw l:List Nat):Prop where
 d1:d<R
 sd:sec d=true
 di:d*i %nn=1
 dwb:BQ dw=bl d
 wl: ∀x∈dw,x<4294967296
 wn:dw.length=8
 l8: ∀x∈l,x<256
 kB:kyB l=true
 kP:toP (kX l) (kY l)=AZ d base
theorem Cx(h:mF a s f g ca pa us ky)(k8: ∀x∈ky,x<256){l:List Nat}(hK:mK d i dw l)
 (hs:Bi TT i (TollBy.beV (sha (AF (mC a s f g ca pa us ky).body)) 0) (TollBy.beV (Bd (BQ dw++sha (AF (mC a s f g ca pa us ky).body))) 0)=true):
 ∃r t,r<R∧t<R∧Known (mC a s f g ca pa us ky) d r t∧Bh l (BK (mC a s f g ca pa us ky)) r t=0:=by
 obtain⟨c,hc⟩: ∃c,mC a s f g ca pa us ky=c:=⟨_,rfl⟩
 have hsum:BK c=TollBy.beV (sha (AF c.body)) 0:=by rw[←hc,BK,gq h]
 have hRd:=fun r t=> @mRd a s f g pa us ca ky h r t
 have hRg:=Px h;have hFt:=iM h k8;rw[hc]at hs hRd hRg hFt⊢;obtain⟨k,hk⟩: ∃k,TollBy.beV (Bd (BQ dw++sha (AF c.body))) 0=k:=⟨_,rfl⟩
 rw[←hsum,hk]at hs;obtain⟨hz,hk0,hkn,X,Y,hX,hr0,ht0⟩:=TA ZP hK.di hs;have hkR:k<R:=Nat.lt_trans hkn (by decide);have hsk:sec k=true:=decide_eq_true ⟨by omega,hkn⟩;have hbl:bl (BK c)=sha (AF c.body):=by rw[hsum,Hv (TollSha.sha_len _) (Jy _)]
 have hn:nV3 d (BK c %nn)=bl k:=by
  rw[Nat.mod_eq_of_lt hz,iL,hbl,←hK.dwb,←hk];exact(Hv (TollSimd.hmac_len _ _) (I4 _ _)).symm
 obtain⟨i',hi1,hi2⟩: ∃i',i'*k %nn=1∧i'<nn:=⟨_,Qh hsk⟩
 obtain⟨r,hr⟩: ∃r,X.val %nn=r:=⟨_,rfl⟩
 have hxr:xv (AZ k base) %nn=r:=by rw[hX];exact hr
 rw[hr]at hr0 ht0;obtain⟨t,ht⟩: ∃t,i'*((BK c+r*d %nn) %nn) %nn=t:=⟨_,rfl⟩
 have hw:(BK c+r*d %nn) %nn %nn≠0:=by rw[Nat.mod_mod,Nat.add_mod_mod];exact ht0
 have ht1:t≠0:=by rw[←ht];exact mT0 hi1 hw
 have hrn:r<nn:=by rw[←hr];exact Nat.mod_lt _ (by decide)
 have htn:t<nn:=by rw[←ht];exact Nat.mod_lt _ (by decide)
 have hrR:r<R:=Nat.lt_trans hrn (by decide);have htR:t<R:=Nat.lt_trans htn (by decide);refine⟨r,t,hrR,htR,⟨hFt,hRg,hRd _ _ hrR htR,?_⟩,?_⟩
 ·intro w hL hK' hH hb1
  exact Rt (d:=d) (h:=BK c) (k:=k) (r:=r) (t:=t) (i:=i') hK.d1 (Sv c) hkR w hL hK' hH hb1 hK.sd hn hsk rfl hxr hi2 hi1 ht hr0 ht1
 ·exact YO (d:=d) (k:=k) (i:=i') hK.kB hK.kP (decide_eq_true ⟨hr0,hrn⟩) (decide_eq_true ⟨ht1,htn⟩) hsk hxr hi1 ht
open TollBy (beV Et)
def mB(a s:Nat)(x y:List Nat)(ca:Bool)(pa us:Nat)(ky:List Nat):Tr:=BH [.mk 160 [] [iT 2],iT 7,BH [B0 E4],Dx [110,a],BH [.mk 2 x [],.mk 2 y []],Dx [110,s],
 BH [BH [B0 [42,134,72,206,61,2,1],B0 [42,134,72,206,61,3,1,7]],EG ky],
 .mk 163 [] [BH [BH [B0 [85,29,19],EV,B4 (Da ca (pa:Nat))],BH [B0 [85,29,15],EV,B4 (iT ((us:Int) %4))],BH [B0 [85,29,37],B4 (iT ((us:Int)/4))]]]]
theorem U7(a s f g:Nat)(ca:Bool)(pa us:Nat)(ky:List Nat):(mC a s f g ca pa us ky).body=mB a s (BP (CV f)) (BP (CV g)) ca pa us ky:=rfl
theorem LR: ∀(a b:List Nat) (x:Nat),beV (a++b) x=beV b (beV a x)
 | [],_,_=>rfl
 |_y::a,b,_x=>LR a b _
theorem j6(P S:List Nat)(m:Nat):beV (P++2::2::m/256::m %256::2::2::m/256::m %256::S) 0=beV (P++2::2::0::0::2::2::0::0::S) 0+m*(256^(S.length+4)+256^S.length):=by
 rw[LR,LR];simp only[beV];rw[Et S,Et S (((((((((beV P 0*256+2)*256+2)*256+0)*256+0)*256+2)*256+2)*256+0)*256+0))];obtain⟨p,hp⟩: ∃p,beV P 0=p:=⟨_,rfl⟩
 rw[hp];have e:(((((((p*256+2)*256+2)*256+m/256)*256+m %256)*256+2)*256+2)*256+m/256)*256+m %256=(((((((p*256+2)*256+2)*256+0)*256+0)*256+2)*256+2)*256+0)*256+0+m*(4294967296+1):=by omega
 rw[e,Nat.pow_add,show(256:Nat)^4=4294967296 by decide];obtain⟨A,hA⟩: ∃A,(((((((p*256+2)*256+2)*256+0)*256+0)*256+2)*256+2)*256+0)*256+0=A:=⟨_,rfl⟩
 obtain⟨Q,hQ⟩: ∃Q,256^S.length=Q:=⟨_,rfl⟩
 obtain⟨Z,hZ⟩: ∃Z,beV S 0=Z:=⟨_,rfl⟩
 rw[hA,hQ,hZ];rw[Nat.add_mul,Nat.mul_assoc m,Nat.add_mul,Nat.one_mul,Nat.mul_comm Q 4294967296,Nat.add_assoc,Nat.add_assoc,Nat.add_comm (m*_) Z]
theorem j7(P S:List Nat)(m:Nat):beV (P++2::1::m::2::1::m::S) 0=beV (P++2::1::0::2::1::0::S) 0+m*(256^(S.length+3)+256^S.length):=by
 rw[LR,LR];simp only[beV];rw[Et S,Et S (((((((beV P 0*256+2)*256+1)*256+0)*256+2)*256+1)*256+0))];obtain⟨p,hp⟩: ∃p,beV P 0=p:=⟨_,rfl⟩
 rw[hp];have e:(((((p*256+2)*256+1)*256+m)*256+2)*256+1)*256+m=(((((p*256+2)*256+1)*256+0)*256+2)*256+1)*256+0+m*(16777216+1):=by omega
 rw[e,Nat.pow_add,show(256:Nat)^3=16777216 by decide];obtain⟨A,hA⟩: ∃A,(((((p*256+2)*256+1)*256+0)*256+2)*256+1)*256+0=A:=⟨_,rfl⟩
 obtain⟨Q,hQ⟩: ∃Q,256^S.length=Q:=⟨_,rfl⟩
 obtain⟨Z,hZ⟩: ∃Z,beV S 0=Z:=⟨_,rfl⟩
 rw[hA,hQ,hZ];rw[Nat.add_mul,Nat.mul_assoc m,Nat.add_mul,Nat.one_mul,Nat.mul_comm Q 16777216,Nat.add_assoc,Nat.add_assoc,Nat.add_comm (m*_) Z]
def JW(V K:Nat):Nat→Nat→List Nat
 |_,0=>[]
 |a,n+1=>(V+a*K)::JW V K (a+1) n
theorem Yy(V K:Nat): ∀n a,(JW V K a n).length=n
 |0,_=>rfl
 |n+1,a=>by unfold JW;rw[List.length_cons,Yy]
theorem Yz(V K:Nat): ∀n a j,j<n→(JW V K a n).getD j 0=V+(a+j)*K
 |n+1,a,0,_=>rfl
 |n+1,a,j+1,h=>by
  unfold JW;rw[List.getD_cons_succ,Yz V K n (a+1) j (by omega),show a+1+j=a+(j+1) by omega]
def grp(T:List Nat)(e1 e2 a n N i:Nat)(dw:List Nat):Bool:=
 frc (beV (An T) 0) fun V=>frc (256^e1+256^e2) fun K=>frl (JW V K a n) fun ms=>Dn n N ms dw (fun _ z k=>Bi TT i z k)
theorem Ww{e1 e2 N:Nat}(h:grp T e1 e2 a n N i dw=true)(hd: ∀x∈dw,x<4294967296)(ld:dw.length=8)
 (hB: ∀j,j<n→(An (B j)).length=64*N∧(∀x∈B j,x<256)∧beV (An (B j)) 0=beV (An T) 0+(a+j)*(256^e1+256^e2)):
 ∀j,j<n→Bi TT i (beV (sha (B j)) 0) (beV (Bd (BQ dw++sha (B j))) 0)=true:=by
 unfold grp at h;simp only[Gi,D9]at h;exact Jf h (Yy _ _ _ _) (fun j hj=>⟨(hB j hj).1,(hB j hj).2.1,by rw[Yz _ _ _ _ _ hj];exact(hB j hj).2.2.symm⟩) hd ld
theorem PK{v y:Nat}(hT:T=P++2::2::u::v::2::2::u::v::S):An (P++2::2::x::y::2::2::x::y::S)=P++2::2::x::y::2::2::x::y::(S++128::(List.replicate (BE T.length) 0++Bl (8*T.length))):=by
 unfold An;have e:(P++2::2::x::y::2::2::x::y::S).length=T.length:=by rw[hT];simp
 rw[e];simp only[List.append_assoc,List.cons_append]
theorem PL(hT:T=P++2::1::u::2::1::u::S):An (P++2::1::x::2::1::x::S)=P++2::1::x::2::1::x::(S++128::(List.replicate (BE T.length) 0++Bl (8*T.length))):=by
 unfold An;have e:(P++2::1::x::2::1::x::S).length=T.length:=by rw[hT];simp
 rw[e];simp only[List.append_assoc,List.cons_append]
theorem oy: ∀m,m<128→BP (CV m)=[m]:=by decide+kernel
theorem ox: ∀m,m<1001→128≤m→BP (CV m)=[m/256,m %256]:=by decide+kernel
theorem EP{p N:Nat}
 (hT: ∀u v,AF (mB a s [u,v] [u,v] ca pa us ky)=(AF (mB a s [0,0] [0,0] ca pa us ky)).take p++2::2::u::v::2::2::u::v::(AF (mB a s [0,0] [0,0] ca pa us ky)).drop (p+8))
 (hl:(An (AF (mB a s [0,0] [0,0] ca pa us ky))).length=64*N)(hp:p+8≤(AF (mB a s [0,0] [0,0] ca pa us ky)).length)(h8: ∀x∈AF (mB a s [0,0] [0,0] ca pa us ky),x<256)
 (hd: ∀x∈dw,x<4294967296)(ld:dw.length=8)(hn:n≤872)(h:grp (AF (mB a s [0,0] [0,0] ca pa us ky)) (64*N-(p+4)) (64*N-(p+8)) 128 n N i dw=true):
 ∀j,j<n→Bi TT i (beV (sha (AF (mC a s (128+j) (128+j) ca pa us ky).body)) 0) (beV (Bd (BQ dw++sha (AF (mC a s (128+j) (128+j) ca pa us ky).body))) 0)=true:=by
 obtain⟨T,eT⟩: ∃T,AF (mB a s [0,0] [0,0] ca pa us ky)=T:=⟨_,rfl⟩
 rw[eT]at hl hp h8 h;simp only[eT]at hT;obtain⟨P,eP⟩: ∃P,T.take p=P:=⟨_,rfl⟩
 obtain⟨S,eS⟩: ∃S,T.drop (p+8)=S:=⟨_,rfl⟩
 simp only[eP,eS]at hT;have h00:T=P++2::2::0::0::2::2::0::0::S:=by rw[←eT];exact hT 0 0
 refine Ww h hd ld (B:=fun j=>AF (mC a s (128+j) (128+j) ca pa us ky).body) fun j hj=> ?_
 have eB:AF (mC a s (128+j) (128+j) ca pa us ky).body=P++2::2::(128+j)/256::(128+j) %256::2::2::(128+j)/256::(128+j) %256::S:=by
  rw[U7,ox (128+j) (by omega) (by omega),hT]
 have lp:P.length=p:=by rw[←eP,List.length_take];omega
 show(An (AF (mC a s (128+j) (128+j) ca pa us ky).body)).length=64*N∧(∀x∈AF (mC a s (128+j) (128+j) ca pa us ky).body,x<256)∧beV (An (AF (mC a s (128+j) (128+j) ca pa us ky).body)) 0=_;rw[eB,PK h00];have hl2:=hl;rw[h00,PK h00]at hl2;refine⟨?_,?_,?_⟩
 ·rw[←hl2];simp
 ·intro x hx
  rw[h00]at h8;simp only[List.mem_append,List.mem_cons]at hx h8;rcases hx with hx|rfl|rfl|rfl|rfl|rfl|rfl|rfl|rfl|hx
  ·exact h8 x (.inl hx)
  all_goals first|(exact h8 x (by simp[hx]))|omega
 ·have e2:=j6 P (S++128::(List.replicate (BE T.length) 0++Bl (8*T.length))) (128+j)
  rw[e2]
  have e3:An T=P++2::2::0::0::2::2::0::0::(S++128::(List.replicate (BE T.length) 0++Bl (8*T.length))):=by
   have:=PK (x:=0) (y:=0) h00;rw[←h00]at this;exact this
  have el:(S++128::(List.replicate (BE T.length) 0++Bl (8*T.length))).length+p+8=64*N:=by
   rw[←hl2,←lp];simp only[List.length_append,List.length_cons];omega
  rw[e3,show 64*N-(p+8)=(S++128::(List.replicate (BE T.length) 0++Bl (8*T.length))).length by omega,show 64*N-(p+4)=(S++128::(List.replicate (BE T.length) 0++Bl (8*T.length))).length+4 by omega]
theorem EQ{p N:Nat}
 (hT: ∀u,AF (mB a s [u] [u] ca pa us ky)=(AF (mB a s [0] [0] ca pa us ky)).take p++2::1::u::2::1::u::(AF (mB a s [0] [0] ca pa us ky)).drop (p+6))
 (hl:(An (AF (mB a s [0] [0] ca pa us ky))).length=64*N)(hp:p+6≤(AF (mB a s [0] [0] ca pa us ky)).length)(h8: ∀x∈AF (mB a s [0] [0] ca pa us ky),x<256)
 (hd: ∀x∈dw,x<4294967296)(ld:dw.length=8)(hn:n≤128)(h:grp (AF (mB a s [0] [0] ca pa us ky)) (64*N-(p+3)) (64*N-(p+6)) 0 n N i dw=true):
 ∀j,j<n→Bi TT i (beV (sha (AF (mC a s j j ca pa us ky).body)) 0) (beV (Bd (BQ dw++sha (AF (mC a s j j ca pa us ky).body))) 0)=true:=by
 obtain⟨T,eT⟩: ∃T,AF (mB a s [0] [0] ca pa us ky)=T:=⟨_,rfl⟩
 rw[eT]at hl hp h8 h;simp only[eT]at hT;obtain⟨P,eP⟩: ∃P,T.take p=P:=⟨_,rfl⟩
 obtain⟨S,eS⟩: ∃S,T.drop (p+6)=S:=⟨_,rfl⟩
 simp only[eP,eS]at hT;have h00:T=P++2::1::0::2::1::0::S:=by rw[←eT];exact hT 0
 refine Ww h hd ld (B:=fun j=>AF (mC a s j j ca pa us ky).body) fun j hj=> ?_
 have eB:AF (mC a s j j ca pa us ky).body=P++2::1::j::2::1::j::S:=by
  rw[U7,oy j (by omega),hT]
 have lp:P.length=p:=by rw[←eP,List.length_take];omega
 show(An (AF (mC a s j j ca pa us ky).body)).length=64*N∧(∀x∈AF (mC a s j j ca pa us ky).body,x<256)∧beV (An (AF (mC a s j j ca pa us ky).body)) 0=_;rw[eB,PL h00];have hl2:=hl;rw[h00,PL h00]at hl2;refine⟨?_,?_,?_⟩
 ·rw[←hl2];simp
 ·intro x hx
  rw[h00]at h8;simp only[List.mem_append,List.mem_cons]at hx h8;rcases hx with hx|rfl|rfl|rfl|rfl|rfl|rfl|hx
  ·exact h8 x (.inl hx)
  all_goals first|(exact h8 x (by simp[hx]))|omega
 ·have e2:=j7 P (S++128::(List.replicate (BE T.length) 0++Bl (8*T.length))) j
  rw[e2]
  have e3:An T=P++2::1::0::2::1::0::(S++128::(List.replicate (BE T.length) 0++Bl (8*T.length))):=by
   have:=PL (x:=0) h00;rw[←h00]at this;exact this
  have el:(S++128::(List.replicate (BE T.length) 0++Bl (8*T.length))).length+p+6=64*N:=by
   rw[←hl2,←lp];simp only[List.length_append,List.length_cons];omega
  rw[e3,Nat.zero_add,show 64*N-(p+6)=(S++128::(List.replicate (BE T.length) 0++Bl (8*T.length))).length by omega,show 64*N-(p+3)=(S++128::(List.replicate (BE T.length) 0++Bl (8*T.length))).length+3 by omega]
def GY(N i:Nat)(B dw:List Nat):Bool:=frc (beV (An B) 0) fun V=>Dn 1 N [V] dw (fun _ z k=>Bi TT i z k)
theorem Il{N:Nat}{B:List Nat}(h:GY N i B dw=true)(hl:(An B).length=64*N)(h8: ∀x∈B,x<256)(hd: ∀x∈dw,x<4294967296)(ld:dw.length=8):
 Bi TT i (beV (sha B) 0) (beV (Bd (BQ dw++sha B)) 0)=true:=by
 unfold GY at h;simp only[Gi]at h;exact Jf (B:=fun _=>B) h rfl (fun j hj=>⟨hl,h8,by have e:j=0:=(by omega);subst e;rfl⟩) hd ld 0 (by decide)
theorem QW:AZ 904625697166532776746648320380374280103671755200316906558262375061821325315 base= .aff (32107728301447972681592032551378350385940566996272436453838488795776722531288:F) (27480834227952509986055749249151043606593995180944892284174661856869619484617:F):=by
 have e:=TollEc.ladder_all 904625697166532776746648320380374280103671755200316906558262375061821325315 (by decide) TollEc.bj (by rw[TollEc.bj_rep];exact TollEc.base_on);have hz:(TollEc.ladder 904625697166532776746648320380374280103671755200316906558262375061821325315 TollEc.bj 256).z*50249601964258878961211576753284324298010111185512983814424238945191388060344=1:=by decide+kernel
 have hx:(TollEc.ladder 904625697166532776746648320380374280103671755200316906558262375061821325315 TollEc.bj 256).x*((50249601964258878961211576753284324298010111185512983814424238945191388060344:F)*50249601964258878961211576753284324298010111185512983814424238945191388060344)=32107728301447972681592032551378350385940566996272436453838488795776722531288:=by decide+kernel
 have hy:(TollEc.ladder 904625697166532776746648320380374280103671755200316906558262375061821325315 TollEc.bj 256).y*((50249601964258878961211576753284324298010111185512983814424238945191388060344:F)*(50249601964258878961211576753284324298010111185512983814424238945191388060344*50249601964258878961211576753284324298010111185512983814424238945191388060344))=27480834227952509986055749249151043606593995180944892284174661856869619484617:=by decide+kernel
 rw[TollEc.bj_rep,TollEc.rep_of hz,hx,hy]at e;exact e.symm
def BB:List Nat:=kyL 32107728301447972681592032551378350385940566996272436453838488795776722531288 27480834227952509986055749249151043606593995180944892284174661856869619484617
theorem li:xv (.aff (32107728301447972681592032551378350385940566996272436453838488795776722531288:F) (27480834227952509986055749249151043606593995180944892284174661856869619484617:F))=32107728301447972681592032551378350385940566996272436453838488795776722531288:=by decide+kernel
theorem lg:yv (.aff (32107728301447972681592032551378350385940566996272436453838488795776722531288:F) (27480834227952509986055749249151043606593995180944892284174661856869619484617:F))=27480834227952509986055749249151043606593995180944892284174661856869619484617:=by decide+kernel
theorem ll:wl (.aff (32107728301447972681592032551378350385940566996272436453838488795776722531288:F) (27480834227952509986055749249151043606593995180944892284174661856869619484617:F))=BB.map b8:=by
 rw[BB,←G2];have h1:=li;have h2:=lg;unfold wl;first|rw[h1,h2]|(simp only[xv,yv]at h1 h2 ⊢; rw[h1,h2])
theorem ln:(Pt.aff (32107728301447972681592032551378350385940566996272436453838488795776722531288:F) (27480834227952509986055749249151043606593995180944892284174661856869619484617:F)).on:=HQ QW
theorem NA:kyB BB=true:=by decide+kernel
theorem lu:kX BB=32107728301447972681592032551378350385940566996272436453838488795776722531288:=by decide+kernel
theorem lr:kY BB=27480834227952509986055749249151043606593995180944892284174661856869619484617:=by decide+kernel
theorem lz:toP (kX BB) (kY BB)=AZ 904625697166532776746648320380374280103671755200316906558262375061821325315 base:=by
 rw[lu,lr,QW];unfold toP;rw[dif_pos (by decide),if_pos (by decide+kernel)];rfl
theorem QV:AZ 904625697166532776746648320380374280103671755200316906558262375061821325316 base= .aff (12201638575977895885754715264110516061377335435506873825319065241153074452856:F) (76801950417137730589149552585413044051771618222328038661148091365080140223329:F):=by
 have e:=TollEc.ladder_all 904625697166532776746648320380374280103671755200316906558262375061821325316 (by decide) TollEc.bj (by rw[TollEc.bj_rep];exact TollEc.base_on);have hz:(TollEc.ladder 904625697166532776746648320380374280103671755200316906558262375061821325316 TollEc.bj 256).z*18094899324967365804549925411574691108879494835157339270798952157082926604457=1:=by decide+kernel
 have hx:(TollEc.ladder 904625697166532776746648320380374280103671755200316906558262375061821325316 TollEc.bj 256).x*((18094899324967365804549925411574691108879494835157339270798952157082926604457:F)*18094899324967365804549925411574691108879494835157339270798952157082926604457)=12201638575977895885754715264110516061377335435506873825319065241153074452856:=by decide+kernel
 have hy:(TollEc.ladder 904625697166532776746648320380374280103671755200316906558262375061821325316 TollEc.bj 256).y*((18094899324967365804549925411574691108879494835157339270798952157082926604457:F)*(18094899324967365804549925411574691108879494835157339270798952157082926604457*18094899324967365804549925411574691108879494835157339270798952157082926604457))=76801950417137730589149552585413044051771618222328038661148091365080140223329:=by decide+kernel
 rw[TollEc.bj_rep,TollEc.rep_of hz,hx,hy]at e;exact e.symm
def BA:List Nat:=kyL 12201638575977895885754715264110516061377335435506873825319065241153074452856 76801950417137730589149552585413044051771618222328038661148091365080140223329
theorem lW:xv (.aff (12201638575977895885754715264110516061377335435506873825319065241153074452856:F) (76801950417137730589149552585413044051771618222328038661148091365080140223329:F))=12201638575977895885754715264110516061377335435506873825319065241153074452856:=by decide+kernel
theorem lU:yv (.aff (12201638575977895885754715264110516061377335435506873825319065241153074452856:F) (76801950417137730589149552585413044051771618222328038661148091365080140223329:F))=76801950417137730589149552585413044051771618222328038661148091365080140223329:=by decide+kernel
theorem lX:wl (.aff (12201638575977895885754715264110516061377335435506873825319065241153074452856:F) (76801950417137730589149552585413044051771618222328038661148091365080140223329:F))=BA.map b8:=by
 rw[BA,←G2];have h1:=lW;have h2:=lU;unfold wl;first|rw[h1,h2]|(simp only[xv,yv]at h1 h2 ⊢; rw[h1,h2])
theorem lY:(Pt.aff (12201638575977895885754715264110516061377335435506873825319065241153074452856:F) (76801950417137730589149552585413044051771618222328038661148091365080140223329:F)).on:=HQ QV
theorem M9:kyB BA=true:=by decide+kernel
theorem lc:kX BA=12201638575977895885754715264110516061377335435506873825319065241153074452856:=by decide+kernel
theorem lZ:kY BA=76801950417137730589149552585413044051771618222328038661148091365080140223329:=by decide+kernel
theorem lf:toP (kX BA) (kY BA)=AZ 904625697166532776746648320380374280103671755200316906558262375061821325316 base:=by
 rw[lc,lZ,QV];unfold toP;rw[dif_pos (by decide),if_pos (by decide+kernel)];rfl
theorem QU:AZ 904625697166532776746648320380374280103671755200316906558262375061821325317 base= .aff (66287985709337247927584764297993088095817648774112254122245720699815289578209:F) (74668031852199030029252159351741910696794185207815034992693526407008592427188:F):=by
 have e:=TollEc.ladder_all 904625697166532776746648320380374280103671755200316906558262375061821325317 (by decide) TollEc.bj (by rw[TollEc.bj_rep];exact TollEc.base_on);have hz:(TollEc.ladder 904625697166532776746648320380374280103671755200316906558262375061821325317 TollEc.bj 256).z*20239985725042396893753211793730586771803714135672309416854721095642833678517=1:=by decide+kernel
 have hx:(TollEc.ladder 904625697166532776746648320380374280103671755200316906558262375061821325317 TollEc.bj 256).x*((20239985725042396893753211793730586771803714135672309416854721095642833678517:F)*20239985725042396893753211793730586771803714135672309416854721095642833678517)=66287985709337247927584764297993088095817648774112254122245720699815289578209:=by decide+kernel
 have hy:(TollEc.ladder 904625697166532776746648320380374280103671755200316906558262375061821325317 TollEc.bj 256).y*((20239985725042396893753211793730586771803714135672309416854721095642833678517:F)*(20239985725042396893753211793730586771803714135672309416854721095642833678517*20239985725042396893753211793730586771803714135672309416854721095642833678517))=74668031852199030029252159351741910696794185207815034992693526407008592427188:=by decide+kernel
 rw[TollEc.bj_rep,TollEc.rep_of hz,hx,hy]at e;exact e.symm
def A9:List Nat:=kyL 66287985709337247927584764297993088095817648774112254122245720699815289578209 74668031852199030029252159351741910696794185207815034992693526407008592427188
theorem lO:xv (.aff (66287985709337247927584764297993088095817648774112254122245720699815289578209:F) (74668031852199030029252159351741910696794185207815034992693526407008592427188:F))=66287985709337247927584764297993088095817648774112254122245720699815289578209:=by decide+kernel
theorem lN:yv (.aff (66287985709337247927584764297993088095817648774112254122245720699815289578209:F) (74668031852199030029252159351741910696794185207815034992693526407008592427188:F))=74668031852199030029252159351741910696794185207815034992693526407008592427188:=by decide+kernel
theorem lP:wl (.aff (66287985709337247927584764297993088095817648774112254122245720699815289578209:F) (74668031852199030029252159351741910696794185207815034992693526407008592427188:F))=A9.map b8:=by
 rw[A9,←G2];have h1:=lO;have h2:=lN;unfold wl;first|rw[h1,h2]|(simp only[xv,yv]at h1 h2 ⊢; rw[h1,h2])
theorem lQ:(Pt.aff (66287985709337247927584764297993088095817648774112254122245720699815289578209:F) (74668031852199030029252159351741910696794185207815034992693526407008592427188:F)).on:=HQ QU
theorem M8:kyB A9=true:=by decide+kernel
theorem lS:kX A9=66287985709337247927584764297993088095817648774112254122245720699815289578209:=by decide+kernel
theorem lR:kY A9=74668031852199030029252159351741910696794185207815034992693526407008592427188:=by decide+kernel
theorem lT:toP (kX A9) (kY A9)=AZ 904625697166532776746648320380374280103671755200316906558262375061821325317 base:=by
 rw[lS,lR,QU];unfold toP;rw[dif_pos (by decide),if_pos (by decide+kernel)];rfl
theorem QT:AZ 904625697166532776746648320380374280103671755200316906558262375061821325318 base= .aff (95635855672447345128338449803849440240569202002202457856830401406169192121089:F) (46590874450578806845090978277159221962714406203215194032678581438396236321772:F):=by
 have e:=TollEc.ladder_all 904625697166532776746648320380374280103671755200316906558262375061821325318 (by decide) TollEc.bj (by rw[TollEc.bj_rep];exact TollEc.base_on);have hz:(TollEc.ladder 904625697166532776746648320380374280103671755200316906558262375061821325318 TollEc.bj 256).z*36715523267414266530630724302439377027496115772576259176917874107612219632843=1:=by decide+kernel
 have hx:(TollEc.ladder 904625697166532776746648320380374280103671755200316906558262375061821325318 TollEc.bj 256).x*((36715523267414266530630724302439377027496115772576259176917874107612219632843:F)*36715523267414266530630724302439377027496115772576259176917874107612219632843)=95635855672447345128338449803849440240569202002202457856830401406169192121089:=by decide+kernel
 have hy:(TollEc.ladder 904625697166532776746648320380374280103671755200316906558262375061821325318 TollEc.bj 256).y*((36715523267414266530630724302439377027496115772576259176917874107612219632843:F)*(36715523267414266530630724302439377027496115772576259176917874107612219632843*36715523267414266530630724302439377027496115772576259176917874107612219632843))=46590874450578806845090978277159221962714406203215194032678581438396236321772:=by decide+kernel
 rw[TollEc.bj_rep,TollEc.rep_of hz,hx,hy]at e;exact e.symm
def Cj:List Nat:=kyL 95635855672447345128338449803849440240569202002202457856830401406169192121089 46590874450578806845090978277159221962714406203215194032678581438396236321772
theorem lG:xv (.aff (95635855672447345128338449803849440240569202002202457856830401406169192121089:F) (46590874450578806845090978277159221962714406203215194032678581438396236321772:F))=95635855672447345128338449803849440240569202002202457856830401406169192121089:=by decide+kernel
theorem lF:yv (.aff (95635855672447345128338449803849440240569202002202457856830401406169192121089:F) (46590874450578806845090978277159221962714406203215194032678581438396236321772:F))=46590874450578806845090978277159221962714406203215194032678581438396236321772:=by decide+kernel
theorem lH:wl (.aff (95635855672447345128338449803849440240569202002202457856830401406169192121089:F) (46590874450578806845090978277159221962714406203215194032678581438396236321772:F))=Cj.map b8:=by
 rw[Cj,←G2];have h1:=lG;have h2:=lF;unfold wl;first|rw[h1,h2]|(simp only[xv,yv]at h1 h2 ⊢; rw[h1,h2])
theorem lI:(Pt.aff (95635855672447345128338449803849440240569202002202457856830401406169192121089:F) (46590874450578806845090978277159221962714406203215194032678581438396236321772:F)).on:=HQ QT
theorem Wc:kyB Cj=true:=by decide+kernel
theorem lL:kX Cj=95635855672447345128338449803849440240569202002202457856830401406169192121089:=by decide+kernel
theorem lJ:kY Cj=46590874450578806845090978277159221962714406203215194032678581438396236321772:=by decide+kernel
theorem lM:toP (kX Cj) (kY Cj)=AZ 904625697166532776746648320380374280103671755200316906558262375061821325318 base:=by
 rw[lL,lJ,QT];unfold toP;rw[dif_pos (by decide),if_pos (by decide+kernel)];rfl
theorem mK1:mK 904625697166532776746648320380374280103671755200316906558262375061821325313 6591544678880922473152825580845563798349195887689057009784510052511805957003 [33554432,0,0,0,0,0,0,1] Ao:=⟨by decide,by decide,by decide,by decide,by decide,by decide,CB _ _,Kv,We⟩
theorem mK2:mK 904625697166532776746648320380374280103671755200316906558262375061821325314 9757795099827360982813673931258627748228033649796172441258847076717655045382 [33554432,0,0,0,0,0,0,2] Ay:=⟨by decide,by decide,by decide,by decide,by decide,by decide,CB _ _,NB,mN⟩
theorem mK3:mK 904625697166532776746648320380374280103671755200316906558262375061821325315 51346076351716616821706775396316709881030632521567270581972978483573885477060 [33554432,0,0,0,0,0,0,3] BB:=⟨by decide,by decide,by decide,by decide,by decide,by decide,CB _ _,NA,lz⟩
theorem mK4:mK 904625697166532776746648320380374280103671755200316906558262375061821325316 77720636907970098743213649865978049386981012036798825840844415520655311905399 [33554432,0,0,0,0,0,0,4] BA:=⟨by decide,by decide,by decide,by decide,by decide,by decide,CB _ _,M9,lf⟩
theorem mK5:mK 904625697166532776746648320380374280103671755200316906558262375061821325317 20859251098157752118482267957895595569935993839816154395969593266132477885300 [33554432,0,0,0,0,0,0,5] A9:=⟨by decide,by decide,by decide,by decide,by decide,by decide,CB _ _,M8,lT⟩
theorem mK6:mK 904625697166532776746648320380374280103671755200316906558262375061821325318 74638001829916188297585177649706581137393156834001479617818657409151875249098 [33554432,0,0,0,0,0,0,6] Cj:=⟨by decide,by decide,by decide,by decide,by decide,by decide,CB _ _,Wc,lM⟩
end Go.Proofs.YtefpajmkaaielaaGreatDoor
