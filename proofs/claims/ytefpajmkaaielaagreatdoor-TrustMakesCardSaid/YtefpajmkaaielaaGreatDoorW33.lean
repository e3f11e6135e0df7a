/- TrustMakes returns true for every input, and its arguments read as before: the card, its ten variables tied to the program's text (a pruned copy of the project; nothing is said of its other packages). -/
import Derived.Test.YtefpajmkaaielaaGreatDoorCards
import Derived.Test.YtefpajmkaaielaaGreatDoorTie
import Derived.SevenTiedAt
import Derived.Test.YtefpajmkaaielaaGreatDoorW32
open Go.Proofs.Tryz
namespace Go.Proofs.YtefpajmkaaielaaGreatDoor
open Go.ChangeShapes Go.WideShapes Go.ChangeAt Go.RowKit Go.Vx
set_option maxRecDepth 100000 in
theorem aD(os:Os)(started:os.Started)(H:Type)(enc:TypeId×Value→H):
 ReturnsInHanded {} checked os 3 .any (fun w args=>(Rows.trustMakesSpec.pre enc prog Tryz.f3 [] false w args∧laidMetH prog Gd w)∧sizedMet enc prog Tryz.f3 (OpenSpec.ofChange Rows.trustMakesSpec) false w args)
  (Rows.trustMakesSpec.post enc prog Tryz.f3 false true false false):=by
 refine returnsInHanded_of_change_and (C:=checked) (X:=fun w _=>laidMetH prog Gd w) (fun _ _ _ hh h=>h.of_heap hh) Tryz.own started (by kernel_rfl) func3
  (ChangeSpec.witness_shaped (enc:=enc) (C:=checked) (os:=os) (X:=fun w _=>laidMetH prog Gd w) false (Mo os) #[.int .i64 0,.int .i64 0,.bool false] 8 (kV os)
   (World.shaped_of_ZipB (by kernel_rfl) (by kernel_rfl)) (by kernel_rfl) (by kernel_rfl) (by kernel_rfl)
   (kZ os _)) ?_
 intro W base args ds gs before hval0 hW _ _ hL _;have hval: ∀(j:Nat) t v,Tryz.f3.params[j]? =some t→args[j]? =some v→Value.okWide prog W .any base t v:=hval0;have hW':=hW;obtain⟨p,q,hA0,hV,rfl,hfz,hnd⟩:=hW;have hA:DataW.TrodAll enc prog W 0 (fun _=>true) true Tryz.f3.params.toList args.toList ds p:=hA0;rw[params3]at hA hval;obtain⟨v0,v1,v2,d0,d1,d2,p0,p1,p2,rfl,rfl,rfl,h0,h1,h2⟩:=trodAll_three hA;obtain⟨rfl,rfl⟩:=trodVars_none hV;obtain⟨x,rfl,_,_,_⟩:=open_int underlying3 (hval 0 3 v0 rfl rfl) h0;obtain⟨z,rfl,_,_,_⟩:=open_int underlying3 (hval 1 3 v1 rfl rfl) h1;obtain⟨y,rfl,_,_⟩:=open_bool underlying4 (hval 2 4 v2 rfl rfl) h2;clear hA0 hval0;refine(gj W (KG hL).1 (KG hL).2.1 (KG hL).2.2.1 (KG hL).2.2.2.1 (KG hL).2.2.2.2).mono fun e W' ⟨he,hg⟩=> ?_
 subst he;exact⟨_,rfl,eQ eW (by kernel_rfl) hW' rfl (fun _ _ _=>trodAll_mk1 (shut_bool underlying4 _)) rfl rfl hg (ok_one (by kernel_rfl) rfl (okWide_bool_mk underlying4 _))⟩
theorem aE:Rows.TrustMakesSaid:=
 OpenClaim.holds_of_wide 3 Tryz.f3 rfl rfl rfl rfl rfl rfl rfl ⟨rfl,rfl,rfl,rfl,rfl⟩ rfl rfl rfl rfl rfl (by kernel_rfl) func3 (by kernel_rfl)
  (of_decide_eq_true (by kernel_rfl)) (by unfold Func.isWrapper;first|(rw[if_pos (by decide+kernel)];kernel_rfl)|(rw[if_neg (by decide+kernel)];exact⟨rfl,rfl⟩))
  (fun os started H enc _=>aD os started H enc)
theorem trustMakes_card:Rows.TrustMakesCardSaid:=
 Claim7.holds_tied_plain_at .later [] [.data,.data,.data,.wider,.data,.wider,.wider,.data,.handle,.pinned] true (true, "5e560896dfb6daf55c7631fd0e39fd41f49fcb4b66e5167c04b962d1af92a0f7") true
  aE (fun _ h=>by cases h) (by kernel_rfl) (fun _ h=>by cases h) trustMakes_row_tie rfl ⟨rfl,rfl⟩ (by kernel_rfl) rfl
  (fun f fn hf hfn=>by
   obtain rfl:f=3:=Option.some.inj ((show prog.funcNamed "tollgate/tollgatelaw11.TrustMakes" =some 3 by kernel_rfl).symm.trans hf) |>.symm
   obtain rfl:fn=Tryz.f3:=(Option.some.inj (func3.symm.trans hfn)).symm
   exact⟨by kernel_rfl,fun j t ht=>by
    rw[params3]at ht;have hm:t∈[3,3,4]:=by simpa using Array.mem_of_getElem? ht
    have hall:([3,3,4].all fun u=> !prog.wantsStandIn u)=true:=by kernel_rfl
    exact(show prog.wantsStandIn t=false by simpa using List.all_eq_true.1 hall t hm)⟩)
  (by kernel_rfl)
#print axioms trustMakes_card
end Go.Proofs.YtefpajmkaaielaaGreatDoor
