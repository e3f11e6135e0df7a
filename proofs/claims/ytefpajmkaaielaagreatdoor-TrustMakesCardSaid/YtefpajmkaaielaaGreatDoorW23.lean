import Derived.Test.YtefpajmkaaielaaGreatDoorW21
import Derived.Test.YtefpajmkaaielaaGreatDoorW22
open Go.Proofs.Tryz
set_option maxHeartbeats 4000000
set_option maxRecDepth 100000
namespace Go.Proofs.YtefpajmkaaielaaGreatDoor
open Go.RowKit Go.Vx
variable{rd:List Nat}{S:Nat→Nat→Prop}{ρ:Nat→Nm}
open TollMont
open Go.Toll (Gw)
open TollEc (F pp cb Jp Pt AZ add base nn neg)
open TollSha (sha Ap)
theorem LC{w:World}{base:Nat}{m:Mem}{id j:Nat}{ty:TypeId}(hR:RelOn base ρ S w (restr rd m))(hid:id∈rd)(hm:m id=some (.cells [.d j] ty)):AJ w (SV.c ρ (.s id 0 1 1)) 1 1 [(ρ j).val] (fun k=>k=(ρ id).g):=by
 have hcy:=(A6 hR hm hid).2;refine⟨_,_,rfl,Nat.le_refl _,rfl,.inr ⟨_,rfl,rfl,fun i x hx=> ?_⟩⟩;rcases i with _|i
 ·simp at hx;subst hx
  rw[BX];simpa[SV.c] using ET (l:=[.d j]) hcy (show([.d j]:List SV)[0]? =some (.d j) from rfl)
 ·simp at hx
theorem Y3:BOy .and 3 (.int .i64 5) (.int .i64 1) (.int .i64 1):=by intro p q w;kernel_rfl
theorem Y0:BOy .and 3 (.int .i64 5) (.int .i64 4) (.int .i64 4):=by intro p q w;kernel_rfl
theorem cM:DK (wrT (tG.whole bg5 bg6)).1 Ao=0:=by
 unfold DK;rw[L0];exact bF
theorem sN(now:Int)(h1:decide (now<0)=false)(h2:decide (now>9)=false):[(wrT (tF.whole bg3 bg4)).1].any (rok now 0 tG.is (wrT (tG.whole bg5 bg6)).1)=true:=by
 simp only[List.any_cons,List.any_nil,Bool.or_false];unfold rok;rw[Sn];show(true && !decide ((0:Int)<((0:Nat):Int)) && !decide (now<0) && !decide (now>9) && !decide (tF.su≠tG.is) && decide (DK (wrT (tG.whole bg5 bg6)).1 Ao=0))=true;rw[h1,h2,cM];decide
theorem aC(w:World)(hL:Laid w)(hK:Au w)(hH:BD w)(hE:EE w)(hb1:8<w.heap.size):CBy 7 #[] w (.bool true):=by
 go_enter func7,ntmps7
 refine AO ?_;iterate 6 refine AA ?_
 refine AB (by exact Ar (cells:=(.agg #[.int .u8 1,.int .u8 1,.int .u8 1,.int .i64 0,.int .i64 9,.bool true,.int .i64 0,.int .i64 1]:Value).cells) rfl gg rfl (by kernel_rfl)) ?_;refine AB (by exact BG (D:= .sl (wrT (tF.whole bg3 bg4)).1.length 1 ((wrT (tF.whole bg3 bg4)).1.map b8)) [] rfl rfl gg rfl (eo func6) (fun ρ S w' hb hR=>(j5 w' (hL.bw hb) (hK.bw hb) (hH.bw hb) (Nat.lt_of_lt_of_le hb1 (Below.size hb))).mono fun e w2 ⟨v,h1,h2,h3⟩=>⟨v,h1,O5 (by simp) h2,h3⟩)) ?_;iterate 4 refine AA ?_
 refine AB (by exact Ar (cells:=(.agg #[.int .u8 2,.int .u8 1,.int .u8 1,.int .i64 0,.int .i64 9,.bool false,.int .i64 0,.int .i64 5]:Value).cells) rfl gg rfl (by kernel_rfl)) ?_;refine AB (by exact BG (D:= .sl (wrT (tG.whole bg5 bg6)).1.length 1 ((wrT (tG.whole bg5 bg6)).1.map b8)) [] rfl rfl gg rfl (eo func6) (fun ρ S w' hb hR=>(j4 w' (hL.bw hb) (hK.bw hb) (hH.bw hb) (Nat.lt_of_lt_of_le hb1 (Below.size hb))).mono fun e w2 ⟨v,h1,h2,h3⟩=>⟨v,h1,O5 (by simp) h2,h3⟩)) ?_;iterate 5 refine AA ?_
 refine YC ?_;refine AA ?_;refine YB ?_;refine AB (by exact Cg (D:=Bg tG) (ys:=[.int .i64 0,.int .i64 0]) [15,12,17,10] rfl rfl gg rfl (eo func4) (fun ρ S w' hb hR=>vC (c:=tG) (Rs:=[(wrT (tF.whole bg3 bg4)).1]) w' (hL.bw hb) (hK.bw hb) (hH.bw hb) (Nat.lt_of_lt_of_le hb1 (Below.size hb)) (LC (id:=15) hR (by simp) rfl) (ES (id:=12) hR (by simp) rfl) (FT (G1 L1.fit _ _)) (by have:=EW (tG.whole bg5 bg6);omega) (hE.bw hb1 hb) (Fa (T:=fun k=>k=(ρ 17).g∨S 10 k) (fun k hk=>Or.inl hk) (LC (id:=17) hR (by simp) rfl)) (⟨Fa (fun k hk=>Or.inr hk) (ES (id:=10) hR (by simp) rfl),trivial⟩) (by decide) (fun b hb2=>by rcases List.mem_singleton.1 hb2 with rfl;exact⟨FT (G1 L2.fit _ _),by have:=EW (tF.whole bg3 bg4);omega⟩) L0 Y3 Y0 (by decide) (by decide) (by decide) (by decide) (sN 9 (by decide) (by decide)))) ?_;iterate 5 refine AA ?_
 refine X0 ?_;iterate 6 refine AA ?_
 refine YC ?_;refine AA ?_;refine YB ?_;refine AB (by exact Aj (v:= .tuple #[CZ,.int .i64 0,.int .i64 7]) [24,12,26,10] rfl gg rfl (eo func4) (fun ρ S w' hb hR=>vB (c:=tG) (Rs:=[(wrT (tF.whole bg3 bg4)).1]) w' (hL.bw hb) (hK.bw hb) (hH.bw hb) (Nat.lt_of_lt_of_le hb1 (Below.size hb)) (LC (id:=24) hR (by simp) rfl) (ES (id:=12) hR (by simp) rfl) (FT (G1 L1.fit _ _)) (by have:=EW (tG.whole bg5 bg6);omega) (hE.bw hb1 hb) (Fa (T:=fun k=>k=(ρ 26).g∨S 10 k) (fun k hk=>Or.inl hk) (LC (id:=26) hR (by simp) rfl)) (⟨Fa (fun k hk=>Or.inr hk) (ES (id:=10) hR (by simp) rfl),trivial⟩) (by decide) (fun b hb2=>by rcases List.mem_singleton.1 hb2 with rfl;exact⟨FT (G1 L2.fit _ _),by have:=EW (tF.whole bg3 bg4);omega⟩) L0 Y3 Y0 (by decide) (by decide) (by decide) (by decide))) ?_;iterate 5 refine AA ?_
 refine X0 ?_;iterate 6 refine AA ?_
 refine JL ?_;iterate 3 refine AA ?_
 refine AB (by first|exact Ev.skip (fun _=>rfl)|exact Ah (v:= .string (AI [110,99])) rfl (fun _=>rfl) rfl (eo func8) (fun w' hw'=>Pg w')) ?_;refine AB (by first|exact Ev.skip (fun _=>rfl)|exact AN (c:= .bool true) rfl (fun _=>rfl) rfl rfl (fun w=>L6 (a:=[110,99]) (b:=[110,99]) (by decide) (by decide) (by decide) _ _ w)) ?_;iterate 3 refine AA ?_
 refine PG ?_;iterate 3 refine AA ?_
 refine PG ?_;iterate 3 refine AA ?_
 exact AG (AD (AM results7 (AE rfl)) fun _ _ hr=>⟨rfl,hr.1⟩)
end Go.Proofs.YtefpajmkaaielaaGreatDoor
