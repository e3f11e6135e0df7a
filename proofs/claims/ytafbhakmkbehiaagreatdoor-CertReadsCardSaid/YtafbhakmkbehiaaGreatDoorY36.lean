/- CertReads returns true for every input, and its arguments read as before: the card, its nine variables tied to the program's text (a pruned copy of the project; nothing is said of its other packages). -/
import Derived.Test.YtafbhakmkbehiaaGreatDoorCards
import Derived.Test.YtafbhakmkbehiaaGreatDoorTie
import Derived.SevenTiedAt
import Derived.Test.YtafbhakmkbehiaaGreatDoorY35
open Go.Proofs.Tryz
namespace Go.Proofs.YtafbhakmkbehiaaGreatDoor
open Go.ChangeShapes Go.WideShapes Go.ChangeAt Go.RowKit Go.Vx
set_option maxRecDepth 100000 in
theorem pn(os:Os)(started:os.Started)(H:Type)(enc:TypeId×Value→H):
 ReturnsInHanded {} checked os 4 .any (fun w args=>(Rows.certReadsSpec.pre enc prog Tryz.f4 [] false w args∧laidMetH prog FN w)∧sizedMet enc prog Tryz.f4 (OpenSpec.ofChange Rows.certReadsSpec) false w args)
  (Rows.certReadsSpec.post enc prog Tryz.f4 false true false false):=by
 refine returnsInHanded_of_change_and (C:=checked) (X:=fun w _=>laidMetH prog FN w) (fun _ _ _ hh h=>h.of_heap hh) Tryz.own started (by kernel_rfl) func4
  (ChangeSpec.witness_shaped (enc:=enc) (C:=checked) (os:=os) (X:=fun w _=>laidMetH prog FN w) false (World.laidAll prog os FN) #[.slice none 0 0] 8 (World.laidAll_os _ _ _)
   (World.shaped_of_ZipB (by kernel_rfl) (by kernel_rfl)) (by kernel_rfl) (by kernel_rfl) (by kernel_rfl)
   (by unfold FN;rw[MakeChecks.laidMetH_plain _ _ _ (by kernel_rfl)];exact laidMet_laidAll _ (by kernel_rfl) (by kernel_rfl))) ?_
 intro W base args ds gs before hval0 hW _ _ hL _;have hval: ∀(j:Nat) t v,Tryz.f4.params[j]? =some t→args[j]? =some v→Value.okWide prog W .any base t v:=hval0;have hW':=hW;obtain⟨p,q,hA0,hV,rfl,hfz,hnd⟩:=hW;have hA:DataW.TrodAll enc prog W 0 (fun _=>true) true Tryz.f4.params.toList args.toList ds p:=hA0;rw[params4]at hA hval;obtain⟨v0,d0,rfl,rfl,h0⟩:=trodAll_one hA;obtain⟨rfl,rfl⟩:=trodVars_none hV;obtain⟨bs,hs0,hb8⟩:=X4 (hval 0 23 v0 rfl rfl) h0;clear hA0 hval0;refine(gj W hs0 hb8 (H9 hL).1 (H9 hL).2.1 (H9 hL).2.2.1 (H9 hL).2.2.2).mono fun e W' ⟨he,hg⟩=> ?_
 subst he;exact⟨_,rfl,Xi Xl (by kernel_rfl) hW' rfl (fun _ _ _=>trodAll_mk1 (shut_bool underlying4 _)) rfl rfl hg (ok_one (by kernel_rfl) rfl (okWide_bool_mk underlying4 _))⟩
theorem po:Rows.CertReadsSaid:=
 OpenClaim.holds_of_wide 4 Tryz.f4 rfl rfl rfl rfl rfl rfl rfl ⟨rfl,rfl,rfl,rfl,rfl⟩ rfl rfl rfl rfl rfl (by kernel_rfl) func4 (by kernel_rfl)
  (of_decide_eq_true (by kernel_rfl)) (by unfold Func.isWrapper;first|(rw[if_pos (by decide+kernel)];kernel_rfl)|(rw[if_neg (by decide+kernel)];exact⟨rfl,rfl⟩))
  (fun os started H enc _=>pn os started H enc)
theorem certReads_card:Rows.CertReadsCardSaid:=
 Claim7.holds_tied_plain_at .later [] [.data,.data,.data,.wider,.data,.wider,.wider,.data,.pinned] true (true, "30b8c6f46770492da8b866596bdd37db9553d6cb68262b84b04d2cbc33f38b46") true
  po (fun _ h=>by cases h) (by kernel_rfl) (fun _ h=>by cases h) certReads_row_tie rfl ⟨rfl,rfl⟩ (by kernel_rfl) rfl
  (fun f fn hf hfn=>by
   obtain rfl:f=4:=Option.some.inj ((show prog.funcNamed "tollgate/tollgatelaw10.CertReads" =some 4 by kernel_rfl).symm.trans hf) |>.symm
   obtain rfl:fn=Tryz.f4:=(Option.some.inj (func4.symm.trans hfn)).symm
   exact⟨by kernel_rfl,fun j t ht=>by
    rw[params4]at ht;have hm:t∈[23]:=by simpa using Array.mem_of_getElem? ht
    have hall:([23].all fun u=> !prog.wantsStandIn u)=true:=by kernel_rfl
    exact(show prog.wantsStandIn t=false by simpa using List.all_eq_true.1 hall t hm)⟩)
  (by kernel_rfl)
#print axioms certReads_card
end Go.Proofs.YtafbhakmkbehiaaGreatDoor
