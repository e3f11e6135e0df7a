/- TrustBent returns true for every input, and its arguments read as before: the card, its ten variables tied to the program's text (a pruned copy of the project; nothing is said of its other packages). -/
import Derived.Test.YtafbhakmkbehiaaGreatDoorCards
import Derived.Test.YtafbhakmkbehiaaGreatDoorTie
import Derived.SevenTiedAt
import Derived.Test.YtafbhakmkbehiaaGreatDoorW28
open Go.Proofs.Tryz
namespace Go.Proofs.YtafbhakmkbehiaaGreatDoor
open Go.ChangeShapes Go.WideShapes Go.ChangeAt Go.RowKit Go.Vx
set_option maxRecDepth 100000 in
theorem tk(os:Os)(d:os.Started)(H:Type)(enc:TypeId×Value->H):
 ReturnsInHanded {} checked os 5 .any (λw a=>(Rows.trustBentSpec.pre enc prog Tryz.f5 [] false w a/\laidMetH prog Fz w)/\sizedMet enc prog Tryz.f5 (OpenSpec.ofChange Rows.trustBentSpec) false w a)
  (Rows.trustBentSpec.post enc prog Tryz.f5 false true false false):=by
 refine returnsInHanded_of_change_and (C:=checked) (X:=λw _=>laidMetH prog Fz w) (λ_ _ _ F h=>h.of_heap F) Tryz.own d (by kernel_rfl) func5
  (ChangeSpec.witness_shaped (enc:=enc) (C:=checked) (os:=os) (X:=λw _=>laidMetH prog Fz w) false (Kh os) #[.int .i64 0,.int .i64 0,.int .u8 0] 8 (uz os)
   (World.shaped_of_ZipB (by kernel_rfl) (by kernel_rfl)) (by kernel_rfl) (by kernel_rfl) (by kernel_rfl)
   (u6 os _)) ?_
 intro W f a o O k c n _ _ i _;have b:∀(j:Nat) t v,Tryz.f5.params[j]? =some t->a[j]? =some v->Value.okWide prog W .any f t v:=c;have l:=n;obtain⟨p,q,g,B,rfl,E,G⟩:=n;have m:DataW.TrodAll enc prog W 0 (λ_=>true) true Tryz.f5.params.toList a.toList o p:=g;rw[params5]at m b;obtain⟨K,L,M,d0,d1,d2,P,Q,p2,rfl,rfl,rfl,r,s,A⟩:=trodAll_three m;obtain⟨rfl,rfl⟩:=trodVars_none B;obtain⟨x,rfl,_,_,_⟩:=open_int uA7 (b 0 3 K rfl rfl) r;obtain⟨z,rfl,_,_,_⟩:=open_int uA7 (b 1 3 L rfl rfl) s;obtain⟨u,rfl,_,_,I⟩:=open_int yL (b 2 5 M rfl rfl) A
 obtain⟨y,J,rfl⟩:∃y:Nat,y<256/\u=(y:Int):=by
  simp[Lit.wf,IntKind.min,IntKind.max,IntKind.bits,IntKind.signed]at I;exact⟨u.toNat,by omega,by omega⟩
 clear g c;refine(wX W J (JQ i).1 (JQ i).2.1 (JQ i).2.2.1 (JQ i).2.2.2.1 (JQ i).2.2.2.2).mono λe N ⟨D,hg⟩=> ?_
 subst D;exact⟨_,rfl,Xi Xl (by kernel_rfl) l rfl (λ_ _ _=>trodAll_mk1 (shut_bool uD7 _)) rfl rfl hg (ok_one (by kernel_rfl) rfl (okWide_bool_mk uD7 _))⟩
theorem tl:Rows.TrustBentSaid:=
 OpenClaim.holds_of_wide 5 Tryz.f5 rfl rfl rfl rfl rfl rfl rfl ⟨rfl,rfl,rfl,rfl,rfl⟩ rfl rfl rfl rfl rfl (by kernel_rfl) func5 (by kernel_rfl)
  (yA (by kernel_rfl)) (by unfold Func.isWrapper;first|(rw[x9 (by decide+kernel)];kernel_rfl)|(rw[x8 (by decide+kernel)];exact⟨rfl,rfl⟩))
  (λc a H b _=>tk c a H b)
theorem trustBent_card:Rows.TrustBentCardSaid:=
 Claim7.holds_tied_plain_at .later [] [.data,.data,.data,.wider,.data,.wider,.wider,.data,.handle,.pinned] true (true, "30b8c6f46770492da8b866596bdd37db9553d6cb68262b84b04d2cbc33f38b46") true
  tl (λ_ h=>by cases h) (by kernel_rfl) (λ_ h=>by cases h) trustBent_row_tie rfl ⟨rfl,rfl⟩ (by kernel_rfl) rfl
  (λf d e b=>by
   obtain rfl:f=5:=z4 ((show prog.funcNamed "tollgate/tollgatelaw11.TrustBent" =some 5 by kernel_rfl).symm.trans e) |>.symm
   obtain rfl:d=Tryz.f5:=(z4 (func5.symm.trans b)).symm
   exact⟨by kernel_rfl,λj t c=>by
    rw[params5]at c;have g:t∈[3,3,5]:=by simpa using Array.mem_of_getElem? c
    have a:([3,3,5].all λu=> !prog.wantsStandIn u)=true:=by kernel_rfl
    exact(show prog.wantsStandIn t=false by simpa using y5.1 a t g)⟩)
  (by kernel_rfl)
#print axioms trustBent_card
end Go.Proofs.YtafbhakmkbehiaaGreatDoor
