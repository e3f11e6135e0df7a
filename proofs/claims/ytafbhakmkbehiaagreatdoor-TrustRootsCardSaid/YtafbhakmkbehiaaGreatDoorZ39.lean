/- TrustRoots returns true for every input, and its arguments read as before: the card, its ten variables tied to the program's text (a pruned copy of the project; nothing is said of its other packages). -/
import Derived.Test.YtafbhakmkbehiaaGreatDoorCards
import Derived.Test.YtafbhakmkbehiaaGreatDoorTie
import Derived.SevenTiedAt
import Derived.Test.YtafbhakmkbehiaaGreatDoorZ38
open Go.Proofs.Tryz
namespace Go.Proofs.YtafbhakmkbehiaaGreatDoor
open Go.ChangeShapes Go.WideShapes Go.ChangeAt Go.RowKit Go.Vx
set_option maxRecDepth 100000 in
theorem OF(os:Os)(started:os.Started)(H:Type)(enc:TypeId×Value→H):
 ReturnsInHanded {} checked os 6 .any (fun w args=>(Rows.trustRootsSpec.pre enc prog Tryz.f6 [] false w args∧laidMetH prog E1 w)∧sizedMet enc prog Tryz.f6 (OpenSpec.ofChange Rows.trustRootsSpec) false w args)
  (Rows.trustRootsSpec.post enc prog Tryz.f6 false true false false):=by
 refine returnsInHanded_of_change_and (C:=checked) (X:=fun w _=>laidMetH prog E1 w) (fun _ _ _ hh h=>h.of_heap hh) Tryz.own started (by kernel_rfl) func6
  (ChangeSpec.witness_shaped (enc:=enc) (C:=checked) (os:=os) (X:=fun w _=>laidMetH prog E1 w) false (Hk os) #[.slice none 0 0,.slice none 0 0] 8 (Sf os)
   (World.shaped_of_ZipB (by kernel_rfl) (by kernel_rfl)) (by kernel_rfl) (by kernel_rfl) (by kernel_rfl)
   (Sg os _)) ?_
 intro W base args ds gs before hval0 hW _ _ hL _;have hval: ∀(j:Nat) t v,Tryz.f6.params[j]? =some t→args[j]? =some v→Value.okWide prog W .any base t v:=hval0;have hW':=hW;obtain⟨p,q,hA0,hV,rfl,hfz,hnd⟩:=hW;have hA:DataW.TrodAll enc prog W 0 (fun _=>true) true Tryz.f6.params.toList args.toList ds p:=hA0;rw[params6]at hA hval;obtain⟨v0,v1,d0,d1,p0,p1,rfl,rfl,rfl,h0,h1⟩:=trodAll_two hA;obtain⟨rfl,rfl⟩:=trodVars_none hV;obtain⟨bs0,hs0,hb0⟩:=X4 (hval 0 23 v0 rfl rfl) h0;obtain⟨bs1,hs1,hb1⟩:=X4 (hval 1 23 v1 rfl rfl) h1;clear hA0 hval0;refine(RX W hs0 hb0 hs1 hb1 (Gf hL).1 (Gf hL).2.1 (Gf hL).2.2.1 (Gf hL).2.2.2.1 (Gf hL).2.2.2.2).mono fun e W' ⟨he,hg⟩=> ?_
 subst he;exact⟨_,rfl,Xi Xl (by kernel_rfl) hW' rfl (fun _ _ _=>trodAll_mk1 (shut_bool underlying4 _)) rfl rfl hg (ok_one (by kernel_rfl) rfl (okWide_bool_mk underlying4 _))⟩
theorem OG:Rows.TrustRootsSaid:=
 OpenClaim.holds_of_wide 6 Tryz.f6 rfl rfl rfl rfl rfl rfl rfl ⟨rfl,rfl,rfl,rfl,rfl⟩ rfl rfl rfl rfl rfl (by kernel_rfl) func6 (by kernel_rfl)
  (of_decide_eq_true (by kernel_rfl)) (by unfold Func.isWrapper;first|(rw[if_pos (by decide+kernel)];kernel_rfl)|(rw[if_neg (by decide+kernel)];exact⟨rfl,rfl⟩))
  (fun os started H enc _=>OF os started H enc)
theorem trustRoots_card:Rows.TrustRootsCardSaid:=
 Claim7.holds_tied_plain_at .later [] [.data,.data,.data,.wider,.data,.wider,.wider,.data,.handle,.pinned] true (true, "30b8c6f46770492da8b866596bdd37db9553d6cb68262b84b04d2cbc33f38b46") true
  OG (fun _ h=>by cases h) (by kernel_rfl) (fun _ h=>by cases h) trustRoots_row_tie rfl ⟨rfl,rfl⟩ (by kernel_rfl) rfl
  (fun f fn hf hfn=>by
   obtain rfl:f=6:=Option.some.inj ((show prog.funcNamed "tollgate/tollgatelaw11.TrustRoots" =some 6 by kernel_rfl).symm.trans hf) |>.symm
   obtain rfl:fn=Tryz.f6:=(Option.some.inj (func6.symm.trans hfn)).symm
   exact⟨by kernel_rfl,fun j t ht=>by
    rw[params6]at ht;have hm:t∈[23,23]:=by simpa using Array.mem_of_getElem? ht
    have hall:([23,23].all fun u=> !prog.wantsStandIn u)=true:=by kernel_rfl
    exact(show prog.wantsStandIn t=false by simpa using List.all_eq_true.1 hall t hm)⟩)
  (by kernel_rfl)
#print axioms trustRoots_card
end Go.Proofs.YtafbhakmkbehiaaGreatDoor
