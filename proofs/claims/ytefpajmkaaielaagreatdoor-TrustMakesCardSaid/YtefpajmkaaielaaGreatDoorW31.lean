import Derived.Test.YtefpajmkaaielaaGreatDoorW22
import Derived.Test.YtefpajmkaaielaaGreatDoorW24
import Derived.Test.YtefpajmkaaielaaGreatDoorW26
open Go.Proofs.Tryz
set_option maxHeartbeats 4000000
set_option maxRecDepth 100000
namespace Go.Proofs.YtefpajmkaaielaaGreatDoor
open Go.RowKit Go.Vx
variable(w:World){now use:Int}{Rs:List (List Nat)}{ky ky' rd:List Nat}{us' vs:List Value}{by_ d' f i iss n r t u who:Nat}{bs:Nat→List Nat}{S:Nat→Nat→Prop}{ρ:Nat→Nm}{F' G:Nat→Prop}{kv rv:Value}
open TollMont
open Go.Toll (Gw)
open TollEc (F pp cb Jp Pt AZ add base nn neg TT Bi)
open TollSha (sha Ap An Bl BE)
open TollSimd (BQ Bd)
open TollBy (beV)
theorem iK:GY 4 6591544678880922473152825580845563798349195887689057009784510052511805957003 (AF (mC 98 98 0 1000 true 0 2 Ao).body) [33554432,0,0,0,0,0,0,1]=true:=by decide+kernel
theorem iI:Bi TT 6591544678880922473152825580845563798349195887689057009784510052511805957003 (beV (sha (AF (mC 98 98 0 1000 true 0 2 Ao).body)) 0) (beV (Bd (BQ [33554432,0,0,0,0,0,0,1]++sha (AF (mC 98 98 0 1000 true 0 2 Ao).body))) 0)=true:=Il iK (by decide+kernel) (by decide+kernel) mK1.wl mK1.wn
theorem U5:mF 98 98 0 1000 true 0 2 Ao:=⟨by decide,by decide,by decide,by decide,by decide,by decide,by decide+kernel,by decide+kernel,Kv⟩
theorem iJ: ∃r t,r<R∧t<R∧Known (mC 98 98 0 1000 true 0 2 Ao) 904625697166532776746648320380374280103671755200316906558262375061821325313 r t∧Bh Ao (BK (mC 98 98 0 1000 true 0 2 Ao)) r t=0:=Cx U5 (CB _ _) mK1 iI
theorem iH:GY 4 9757795099827360982813673931258627748228033649796172441258847076717655045382 (AF (mC 99 99 0 1000 true 1 2 Ay).body) [33554432,0,0,0,0,0,0,2]=true:=by decide+kernel
theorem iE:Bi TT 9757795099827360982813673931258627748228033649796172441258847076717655045382 (beV (sha (AF (mC 99 99 0 1000 true 1 2 Ay).body)) 0) (beV (Bd (BQ [33554432,0,0,0,0,0,0,2]++sha (AF (mC 99 99 0 1000 true 1 2 Ay).body))) 0)=true:=Il iH (by decide+kernel) (by decide+kernel) mK2.wl mK2.wn
theorem U4:mF 99 99 0 1000 true 1 2 Ay:=⟨by decide,by decide,by decide,by decide,by decide,by decide,by decide+kernel,by decide+kernel,NB⟩
theorem iG: ∃r t,r<R∧t<R∧Known (mC 99 99 0 1000 true 1 2 Ay) 904625697166532776746648320380374280103671755200316906558262375061821325314 r t∧Bh Ay (BK (mC 99 99 0 1000 true 1 2 Ay)) r t=0:=Cx U4 (CB _ _) mK2 iE
theorem iC:GY 4 51346076351716616821706775396316709881030632521567270581972978483573885477060 (AF (mC 100 100 0 1000 true 2 2 BB).body) [33554432,0,0,0,0,0,0,3]=true:=by decide+kernel
theorem iA:Bi TT 51346076351716616821706775396316709881030632521567270581972978483573885477060 (beV (sha (AF (mC 100 100 0 1000 true 2 2 BB).body)) 0) (beV (Bd (BQ [33554432,0,0,0,0,0,0,3]++sha (AF (mC 100 100 0 1000 true 2 2 BB).body))) 0)=true:=Il iC (by decide+kernel) (by decide+kernel) mK3.wl mK3.wn
theorem U3:mF 100 100 0 1000 true 2 2 BB:=⟨by decide,by decide,by decide,by decide,by decide,by decide,by decide+kernel,by decide+kernel,NA⟩
theorem iB: ∃r t,r<R∧t<R∧Known (mC 100 100 0 1000 true 2 2 BB) 904625697166532776746648320380374280103671755200316906558262375061821325315 r t∧Bh BB (BK (mC 100 100 0 1000 true 2 2 BB)) r t=0:=Cx U3 (CB _ _) mK3 iA
theorem hU:GY 4 77720636907970098743213649865978049386981012036798825840844415520655311905399 (AF (mC 101 101 0 1000 true 3 2 BA).body) [33554432,0,0,0,0,0,0,4]=true:=by decide+kernel
theorem hG:Bi TT 77720636907970098743213649865978049386981012036798825840844415520655311905399 (beV (sha (AF (mC 101 101 0 1000 true 3 2 BA).body)) 0) (beV (Bd (BQ [33554432,0,0,0,0,0,0,4]++sha (AF (mC 101 101 0 1000 true 3 2 BA).body))) 0)=true:=Il hU (by decide+kernel) (by decide+kernel) mK4.wl mK4.wn
theorem U2:mF 101 101 0 1000 true 3 2 BA:=⟨by decide,by decide,by decide,by decide,by decide,by decide,by decide+kernel,by decide+kernel,M9⟩
theorem hJ: ∃r t,r<R∧t<R∧Known (mC 101 101 0 1000 true 3 2 BA) 904625697166532776746648320380374280103671755200316906558262375061821325316 r t∧Bh BA (BK (mC 101 101 0 1000 true 3 2 BA)) r t=0:=Cx U2 (CB _ _) mK4 hG
theorem g9:GY 4 20859251098157752118482267957895595569935993839816154395969593266132477885300 (AF (mC 102 102 0 1000 true 4 2 A9).body) [33554432,0,0,0,0,0,0,5]=true:=by decide+kernel
theorem g7:Bi TT 20859251098157752118482267957895595569935993839816154395969593266132477885300 (beV (sha (AF (mC 102 102 0 1000 true 4 2 A9).body)) 0) (beV (Bd (BQ [33554432,0,0,0,0,0,0,5]++sha (AF (mC 102 102 0 1000 true 4 2 A9).body))) 0)=true:=Il g9 (by decide+kernel) (by decide+kernel) mK5.wl mK5.wn
theorem U1:mF 102 102 0 1000 true 4 2 A9:=⟨by decide,by decide,by decide,by decide,by decide,by decide,by decide+kernel,by decide+kernel,M8⟩
theorem g8: ∃r t,r<R∧t<R∧Known (mC 102 102 0 1000 true 4 2 A9) 904625697166532776746648320380374280103671755200316906558262375061821325317 r t∧Bh A9 (BK (mC 102 102 0 1000 true 4 2 A9)) r t=0:=Cx U1 (CB _ _) mK5 g7
theorem gz:GY 4 74638001829916188297585177649706581137393156834001479617818657409151875249098 (AF (mC 103 103 0 1000 true 5 2 Cj).body) [33554432,0,0,0,0,0,0,6]=true:=by decide+kernel
theorem gx:Bi TT 74638001829916188297585177649706581137393156834001479617818657409151875249098 (beV (sha (AF (mC 103 103 0 1000 true 5 2 Cj).body)) 0) (beV (Bd (BQ [33554432,0,0,0,0,0,0,6]++sha (AF (mC 103 103 0 1000 true 5 2 Cj).body))) 0)=true:=Il gz (by decide+kernel) (by decide+kernel) mK6.wl mK6.wn
theorem U0:mF 103 103 0 1000 true 5 2 Cj:=⟨by decide,by decide,by decide,by decide,by decide,by decide,by decide+kernel,by decide+kernel,Wc⟩
theorem gy: ∃r t,r<R∧t<R∧Known (mC 103 103 0 1000 true 5 2 Cj) 904625697166532776746648320380374280103671755200316906558262375061821325318 r t∧Bh Cj (BK (mC 103 103 0 1000 true 5 2 Cj)) r t=0:=Cx U0 (CB _ _) mK6 gx
theorem qw:prog.built 46 [(31,.int .u8 3),(0,.int .u8 2)]=some (B32 904625697166532776746648320380374280103671755200316906558262375061821325315).cells:=by kernel_rfl
theorem qv:prog.built 46 [(31,.int .u8 4),(0,.int .u8 2)]=some (B32 904625697166532776746648320380374280103671755200316906558262375061821325316).cells:=by kernel_rfl
theorem qu:prog.built 46 [(31,.int .u8 5),(0,.int .u8 2)]=some (B32 904625697166532776746648320380374280103671755200316906558262375061821325317).cells:=by kernel_rfl
theorem qt:prog.built 46 [(31,.int .u8 6),(0,.int .u8 2)]=some (B32 904625697166532776746648320380374280103671755200316906558262375061821325318).cells:=by kernel_rfl
theorem k6(hL:Laid w):Calls prog 11 #[.int .u8 3] w fun e w'=> ∃v,e= .returned (.tuple #[B32 904625697166532776746648320380374280103671755200316906558262375061821325315,v])∧BJ w w' v 65 1 5 (BB.map b8)∧Bw w w':=by
 go_enter func11,ntmps11
 refine AO ?_;iterate 2 refine k_g ?_
 iterate 6 refine AA ?_
 refine AB (by exact Ar (cells:=(B32 904625697166532776746648320380374280103671755200316906558262375061821325315).cells) rfl gg rfl qw) ?_;iterate 2 refine AA ?_
 iterate 3 refine k_g ?_
 refine AA ?_;refine AB (by exact DC [] rfl rfl gg rfl (eo func17) (n:=65) (size:=1) (l:=BB.map b8) (y:= .int .i64 0) (by rfl) (fun ρ S w' hb hR=>by have a:=HO (a:=904625697166532776746648320380374280103671755200316906558262375061821325315) (by decide) w' (hL.bw hb) (by decide) QW ln;rw[ll]at a;exact a)) ?_;iterate 13 refine AA ?_
 refine AG ?_;refine AD (Av results11 (Ad rfl rfl underlying46 rfl sizeOf46 rfl rfl) (AE rfl)) ?_;intro ρ w' hr;exact⟨_,rfl,BR hr rfl,hr.1⟩
theorem k5(hL:Laid w):Calls prog 11 #[.int .u8 4] w fun e w'=> ∃v,e= .returned (.tuple #[B32 904625697166532776746648320380374280103671755200316906558262375061821325316,v])∧BJ w w' v 65 1 5 (BA.map b8)∧Bw w w':=by
 go_enter func11,ntmps11
 refine AO ?_;iterate 2 refine k_g ?_
 iterate 6 refine AA ?_
 refine AB (by exact Ar (cells:=(B32 904625697166532776746648320380374280103671755200316906558262375061821325316).cells) rfl gg rfl qv) ?_;iterate 2 refine AA ?_
 iterate 3 refine k_g ?_
 refine AA ?_;refine AB (by exact DC [] rfl rfl gg rfl (eo func17) (n:=65) (size:=1) (l:=BA.map b8) (y:= .int .i64 0) (by rfl) (fun ρ S w' hb hR=>by have a:=HO (a:=904625697166532776746648320380374280103671755200316906558262375061821325316) (by decide) w' (hL.bw hb) (by decide) QV lY;rw[lX]at a;exact a)) ?_;iterate 13 refine AA ?_
 refine AG ?_;refine AD (Av results11 (Ad rfl rfl underlying46 rfl sizeOf46 rfl rfl) (AE rfl)) ?_;intro ρ w' hr;exact⟨_,rfl,BR hr rfl,hr.1⟩
theorem kz(hL:Laid w):Calls prog 11 #[.int .u8 5] w fun e w'=> ∃v,e= .returned (.tuple #[B32 904625697166532776746648320380374280103671755200316906558262375061821325317,v])∧BJ w w' v 65 1 5 (A9.map b8)∧Bw w w':=by
 go_enter func11,ntmps11
 refine AO ?_;iterate 2 refine k_g ?_
 iterate 6 refine AA ?_
 refine AB (by exact Ar (cells:=(B32 904625697166532776746648320380374280103671755200316906558262375061821325317).cells) rfl gg rfl qu) ?_;iterate 2 refine AA ?_
 iterate 3 refine k_g ?_
 refine AA ?_;refine AB (by exact DC [] rfl rfl gg rfl (eo func17) (n:=65) (size:=1) (l:=A9.map b8) (y:= .int .i64 0) (by rfl) (fun ρ S w' hb hR=>by have a:=HO (a:=904625697166532776746648320380374280103671755200316906558262375061821325317) (by decide) w' (hL.bw hb) (by decide) QU lQ;rw[lP]at a;exact a)) ?_;iterate 13 refine AA ?_
 refine AG ?_;refine AD (Av results11 (Ad rfl rfl underlying46 rfl sizeOf46 rfl rfl) (AE rfl)) ?_;intro ρ w' hr;exact⟨_,rfl,BR hr rfl,hr.1⟩
theorem kx(hL:Laid w):Calls prog 11 #[.int .u8 6] w fun e w'=> ∃v,e= .returned (.tuple #[B32 904625697166532776746648320380374280103671755200316906558262375061821325318,v])∧BJ w w' v 65 1 5 (Cj.map b8)∧Bw w w':=by
 go_enter func11,ntmps11
 refine AO ?_;iterate 2 refine k_g ?_
 iterate 6 refine AA ?_
 refine AB (by exact Ar (cells:=(B32 904625697166532776746648320380374280103671755200316906558262375061821325318).cells) rfl gg rfl qt) ?_;iterate 2 refine AA ?_
 iterate 3 refine k_g ?_
 refine AA ?_;refine AB (by exact DC [] rfl rfl gg rfl (eo func17) (n:=65) (size:=1) (l:=Cj.map b8) (y:= .int .i64 0) (by rfl) (fun ρ S w' hb hR=>by have a:=HO (a:=904625697166532776746648320380374280103671755200316906558262375061821325318) (by decide) w' (hL.bw hb) (by decide) QT lI;rw[lH]at a;exact a)) ?_;iterate 13 refine AA ?_
 refine AG ?_;refine AD (Av results11 (Ad rfl rfl underlying46 rfl sizeOf46 rfl rfl) (AE rfl)) ?_;intro ρ w' hr;exact⟨_,rfl,BR hr rfl,hr.1⟩
theorem gK:CBy 8 #[.int .u8 3] w (.string (AI [110,100])):=by
 go_enter func8,ntmps8
 refine AO ?_;iterate 7 refine AA ?_
 refine AB (by exact AN (c:= .int .u8 3) rfl gg rfl rfl (fun w=>by kernel_rfl)) ?_;refine AB (by exact AN (c:= .int .u8 100) rfl gg rfl rfl (fun w=>by kernel_rfl)) ?_;refine AB (by exact BV rfl rfl gg rfl (e:=5) (l:=[100].map b8) rfl (by decide) (fun _=>by kernel_rfl)) ?_;refine AB (by exact ER (bs:=[100]) rfl gg rfl underlying26 underlying5 underlying9 (BI rfl)) ?_;refine AB (by exact AN (c:= .string (AI [110,100])) rfl gg rfl rfl (fun w=>by kernel_rfl)) ?_;iterate 2 refine AA ?_
 exact AG (AD (AM results8 (AE rfl)) fun _ _ hr=>⟨rfl,hr.1⟩)
theorem gJ:CBy 8 #[.int .u8 4] w (.string (AI [110,101])):=by
 go_enter func8,ntmps8
 refine AO ?_;iterate 7 refine AA ?_
 refine AB (by exact AN (c:= .int .u8 4) rfl gg rfl rfl (fun w=>by kernel_rfl)) ?_;refine AB (by exact AN (c:= .int .u8 101) rfl gg rfl rfl (fun w=>by kernel_rfl)) ?_;refine AB (by exact BV rfl rfl gg rfl (e:=5) (l:=[101].map b8) rfl (by decide) (fun _=>by kernel_rfl)) ?_;refine AB (by exact ER (bs:=[101]) rfl gg rfl underlying26 underlying5 underlying9 (BI rfl)) ?_;refine AB (by exact AN (c:= .string (AI [110,101])) rfl gg rfl rfl (fun w=>by kernel_rfl)) ?_;iterate 2 refine AA ?_
 exact AG (AD (AM results8 (AE rfl)) fun _ _ hr=>⟨rfl,hr.1⟩)
theorem gI:CBy 8 #[.int .u8 5] w (.string (AI [110,102])):=by
 go_enter func8,ntmps8
 refine AO ?_;iterate 7 refine AA ?_
 refine AB (by exact AN (c:= .int .u8 5) rfl gg rfl rfl (fun w=>by kernel_rfl)) ?_;refine AB (by exact AN (c:= .int .u8 102) rfl gg rfl rfl (fun w=>by kernel_rfl)) ?_;refine AB (by exact BV rfl rfl gg rfl (e:=5) (l:=[102].map b8) rfl (by decide) (fun _=>by kernel_rfl)) ?_;refine AB (by exact ER (bs:=[102]) rfl gg rfl underlying26 underlying5 underlying9 (BI rfl)) ?_;refine AB (by exact AN (c:= .string (AI [110,102])) rfl gg rfl rfl (fun w=>by kernel_rfl)) ?_;iterate 2 refine AA ?_
 exact AG (AD (AM results8 (AE rfl)) fun _ _ hr=>⟨rfl,hr.1⟩)
theorem gH:CBy 8 #[.int .u8 6] w (.string (AI [110,103])):=by
 go_enter func8,ntmps8
 refine AO ?_;iterate 7 refine AA ?_
 refine AB (by exact AN (c:= .int .u8 6) rfl gg rfl rfl (fun w=>by kernel_rfl)) ?_;refine AB (by exact AN (c:= .int .u8 103) rfl gg rfl rfl (fun w=>by kernel_rfl)) ?_;refine AB (by exact BV rfl rfl gg rfl (e:=5) (l:=[103].map b8) rfl (by decide) (fun _=>by kernel_rfl)) ?_;refine AB (by exact ER (bs:=[103]) rfl gg rfl underlying26 underlying5 underlying9 (BI rfl)) ?_;refine AB (by exact AN (c:= .string (AI [110,103])) rfl gg rfl rfl (fun w=>by kernel_rfl)) ?_;iterate 2 refine AA ?_
 exact AG (AD (AM results8 (AE rfl)) fun _ _ hr=>⟨rfl,hr.1⟩)
theorem Mi(hf:f<1001):BOy .rem 3 (.int .i64 (f:Nat)) (.int .i64 1099511627776) (.int .i64 (f:Nat)):=by
 intro p q w
 go_simp
 rw[Int.tmod_eq_emod_of_nonneg (by omega)];omega
def mUs(u:Nat):Prop:=u=0∨u=5∨u=9
theorem mU1(h:mUs u)(w:World):(convert 3 22 (.int .i64 (u:Nat))).run prog w= .ok (.int .u64 (u:Nat)) w:=by
 rcases h with rfl|rfl|rfl<;>kernel_rfl
theorem mU2(h:mUs u):BOy .rem 22 (.int .u64 (u:Nat)) (.int .u64 16) (.int .u64 (u:Nat)):=by
 intro p q w
 rcases h with rfl|rfl|rfl<;>kernel_rfl
theorem mU3(h:mUs u)(w:World):(convert 22 3 (.int .u64 (u:Nat))).run prog w= .ok (.int .i64 (u:Nat)) w:=by
 rcases h with rfl|rfl|rfl<;>kernel_rfl
theorem mU4(h:mUs u):BOy .andNot 3 (.int .i64 (u:Nat)) (.int .i64 2) (.int .i64 (u:Nat)):=by
 intro p q w
 rcases h with rfl|rfl|rfl<;>kernel_rfl
theorem mU5(h:mUs u):BOy .or 3 (.int .i64 (u:Nat)) (.int .i64 2) (.int .i64 ((u+2:Nat):Int)):=by
 intro p q w
 rcases h with rfl|rfl|rfl<;>kernel_rfl
theorem m6(h:u<6):u=0∨u=1∨u=2∨u=3∨u=4∨u=5:=by omega
theorem mP1(h:u<6)(w:World):(convert 3 22 (.int .i64 (u:Nat))).run prog w= .ok (.int .u64 (u:Nat)) w:=by
 rcases m6 h with rfl|rfl|rfl|rfl|rfl|rfl<;>kernel_rfl
theorem mP2(h:u<6):BOy .rem 22 (.int .u64 (u:Nat)) (.int .u64 6) (.int .u64 (u:Nat)):=by
 intro p q w
 rcases m6 h with rfl|rfl|rfl|rfl|rfl|rfl<;>kernel_rfl
theorem mP3(h:u<6)(w:World):(convert 22 3 (.int .u64 (u:Nat))).run prog w= .ok (.int .i64 (u:Nat)) w:=by
 rcases m6 h with rfl|rfl|rfl|rfl|rfl|rfl<;>kernel_rfl
theorem gZ{a s g d:Nat}(hL:Laid w)(hK:Au w)(hH:BD w)(hb1:8<w.heap.size)(h:mF a s f g false 0 (u) ky)(hk:Known (mC a s f g false 0 (u) ky) d r t)(kW:(∀w:World,Laid w→Calls prog 11 #[.int .u8 (who:Nat)] w fun e w'=> ∃v,e= .returned (.tuple #[B32 d',v])∧BJ w w' v ky.length 1 5 (ky.map b8)∧Bw w w'))(kB:(∀w:World,Laid w→Calls prog 11 #[.int .u8 (by_:Nat)] w fun e w'=> ∃v,e= .returned (.tuple #[B32 d,v])∧BJ w w' v ky'.length 1 5 (ky'.map b8)∧Bw w w'))(nI:(∀w:World,CBy 8 #[.int .u8 (iss:Nat)] w (.string (AI [110,a]))))(nW:(∀w:World,CBy 8 #[.int .u8 (who:Nat)] w (.string (AI [110,s]))))(hu:mUs u):CRy 6 #[.agg #[.int .u8 (who:Nat),.int .u8 (iss:Nat),.int .u8 (by_:Nat),.int .i64 (f:Nat),.int .i64 (g:Nat),.bool false,.int .i64 (0:Nat),.int .i64 (u:Nat)]] w ((wrT ((mC a s f g false 0 (u) ky).whole r t)).1.length) ((wrT ((mC a s f g false 0 (u) ky).whole r t)).1.map b8):=by
 go_enter func6,ntmps6
 refine AO ?_;iterate 9 refine AA ?_
 refine Xh ?_;iterate 11 refine AA ?_
 refine Xi ?_;iterate 11 refine AA ?_
 refine AB (by exact Ah (v:= .string (AI [110,a])) rfl gg rfl (eo func8) (fun w' hw'=>nI w')) ?_;iterate 2 refine AA ?_
 refine AB (by exact Ah (v:= .string (AI [110,s])) rfl gg rfl (eo func8) (fun w' hw'=>nW w')) ?_;iterate 2 refine AA ?_
 refine AB (by exact JC (a:=f) rfl gg rfl rfl) ?_;refine AB (by exact AN (c:= .int .i64 (f:Nat)) rfl gg rfl rfl (fun w=>Mi h.f2 _ _ w)) ?_;iterate 2 refine AA ?_
 refine AB (by exact JC (a:=g) rfl gg rfl rfl) ?_;refine AB (by exact AN (c:= .int .i64 (g:Nat)) rfl gg rfl rfl (fun w=>Mi h.g2 _ _ w)) ?_;iterate 5 refine AA ?_
 refine AB (by exact A5 (c:= .int .u64 (u:Nat)) rfl gg rfl (fun w=>mU1 hu w)) ?_;refine AB (by exact AN (c:= .int .u64 (u:Nat)) rfl gg rfl rfl (fun w=>mU2 hu _ _ w)) ?_;refine AB (by exact A5 (c:= .int .i64 (u:Nat)) rfl gg rfl (fun w=>mU3 hu w)) ?_;refine AB (by exact AN (c:= .int .i64 (u:Nat)) rfl gg rfl rfl (fun w=>mU4 hu _ _ w)) ?_;refine AB (by exact Qo rfl gg rfl rfl rfl rfl rfl rfl rfl rfl (BI (id:=13) rfl)) ?_;refine AA ?_;refine AB (by exact Az (vl:=[.v (.int .i64 7),.v (.string (AI [110,a])),.v (.string (AI [110,s])),.v (.int .i64 (f:Nat)),.v (.int .i64 (g:Nat)),.d 13,.v (.bool false),.v (.int .i64 0),.v (.int .i64 (u:Nat))]) [13,7] rfl gg rfl rfl rfl sizeOf28 rfl (fun ρ S w' _ hR=>⟨CG _,by have hh:=CO (id:=13) hR (by simp) rfl;simp only[SV.cs,SV.c,List.all_cons,List.all_nil,hh.2];rfl⟩) rfl (by simp)) ?_;iterate 4 refine k_g ?_
 iterate 2 refine AA ?_
 iterate 5 refine k_g ?_
 iterate 2 refine AA ?_
 refine AB (by exact DC [13] rfl rfl gg rfl (eo func12) (n:=(wrT ((mC a s f g false 0 (u) ky).whole r t)).1.length) (size:=1) (l:=(wrT ((mC a s f g false 0 (u) ky).whole r t)).1.map b8) (y:= .int .i64 0) (by simp) (fun ρ S w' hb hR=>Nn (c:=(mC a s f g false 0 (u) ky)) (d:=d) (r:=r) (t:=t) w' (hL.bw hb) (hK.bw hb) (hH.bw hb) (Nat.lt_of_lt_of_le hb1 hb.size) (Dq (id:=13) hR (by simp) rfl) hk.fit hk.rgt (fun w2 h2=>hk.made ((hL.bw hb).bw h2) ((hK.bw hb).bw h2) ((hH.bw hb).bw h2) (Nat.lt_of_lt_of_le (Nat.lt_of_lt_of_le hb1 hb.size) h2.size)))) ?_;iterate 10 refine AA ?_
 refine AB (by exact A0 (p:=false) rfl gg rfl rfl (by decide)) ?_;iterate 8 refine AA ?_
 refine AG ?_;refine AD (AM results6 (AE rfl)) ?_;intro ρ w' hr;exact⟨_,rfl,BR hr rfl,hr.1⟩
theorem Uq{a s g pa d:Nat}(hL:Laid w)(hK:Au w)(hH:BD w)(hb1:8<w.heap.size)(h:mF a s f g true pa (u+2) ky)(hk:Known (mC a s f g true pa (u+2) ky) d r t)(kW:(∀w:World,Laid w→Calls prog 11 #[.int .u8 (who:Nat)] w fun e w'=> ∃v,e= .returned (.tuple #[B32 d',v])∧BJ w w' v ky.length 1 5 (ky.map b8)∧Bw w w'))(kB:(∀w:World,Laid w→Calls prog 11 #[.int .u8 (by_:Nat)] w fun e w'=> ∃v,e= .returned (.tuple #[B32 d,v])∧BJ w w' v ky'.length 1 5 (ky'.map b8)∧Bw w w'))(nI:(∀w:World,CBy 8 #[.int .u8 (iss:Nat)] w (.string (AI [110,a]))))(nW:(∀w:World,CBy 8 #[.int .u8 (who:Nat)] w (.string (AI [110,s]))))(hu:mUs u):CRy 6 #[.agg #[.int .u8 (who:Nat),.int .u8 (iss:Nat),.int .u8 (by_:Nat),.int .i64 (f:Nat),.int .i64 (g:Nat),.bool true,.int .i64 (pa:Nat),.int .i64 (u:Nat)]] w ((wrT ((mC a s f g true pa (u+2) ky).whole r t)).1.length) ((wrT ((mC a s f g true pa (u+2) ky).whole r t)).1.map b8):=by
 go_enter func6,ntmps6
 refine AO ?_;iterate 9 refine AA ?_
 refine Xh ?_;iterate 11 refine AA ?_
 refine Xi ?_;iterate 11 refine AA ?_
 refine AB (by exact Ah (v:= .string (AI [110,a])) rfl gg rfl (eo func8) (fun w' hw'=>nI w')) ?_;iterate 2 refine AA ?_
 refine AB (by exact Ah (v:= .string (AI [110,s])) rfl gg rfl (eo func8) (fun w' hw'=>nW w')) ?_;iterate 2 refine AA ?_
 refine AB (by exact JC (a:=f) rfl gg rfl rfl) ?_;refine AB (by exact AN (c:= .int .i64 (f:Nat)) rfl gg rfl rfl (fun w=>Mi h.f2 _ _ w)) ?_;iterate 2 refine AA ?_
 refine AB (by exact JC (a:=g) rfl gg rfl rfl) ?_;refine AB (by exact AN (c:= .int .i64 (g:Nat)) rfl gg rfl rfl (fun w=>Mi h.g2 _ _ w)) ?_;iterate 5 refine AA ?_
 refine AB (by exact A5 (c:= .int .u64 (u:Nat)) rfl gg rfl (fun w=>mU1 hu w)) ?_;refine AB (by exact AN (c:= .int .u64 (u:Nat)) rfl gg rfl rfl (fun w=>mU2 hu _ _ w)) ?_;refine AB (by exact A5 (c:= .int .i64 (u:Nat)) rfl gg rfl (fun w=>mU3 hu w)) ?_;refine AB (by exact AN (c:= .int .i64 (u:Nat)) rfl gg rfl rfl (fun w=>mU4 hu _ _ w)) ?_;refine AB (by exact Qo rfl gg rfl rfl rfl rfl rfl rfl rfl rfl (BI (id:=13) rfl)) ?_;refine AA ?_;refine AB (by exact Az (vl:=[.v (.int .i64 7),.v (.string (AI [110,a])),.v (.string (AI [110,s])),.v (.int .i64 (f:Nat)),.v (.int .i64 (g:Nat)),.d 13,.v (.bool true),.v (.int .i64 0),.v (.int .i64 (u:Nat))]) [13,7] rfl gg rfl rfl rfl sizeOf28 rfl (fun ρ S w' _ hR=>⟨CG _,by have hh:=CO (id:=13) hR (by simp) rfl;simp only[SV.cs,SV.c,List.all_cons,List.all_nil,hh.2];rfl⟩) rfl (by simp)) ?_;iterate 4 refine k_g ?_
 iterate 2 refine AA ?_
 iterate 3 refine k_g ?_
 iterate 2 refine AA ?_
 refine AB (by exact A5 (c:= .int .u64 (pa:Nat)) rfl gg rfl (fun w=>mP1 h.ba.2.2.1 w)) ?_;refine AB (by exact AN (c:= .int .u64 (pa:Nat)) rfl gg rfl rfl (fun w=>mP2 h.ba.2.2.1 _ _ w)) ?_;refine AB (by exact A5 (c:= .int .i64 (pa:Nat)) rfl gg rfl (fun w=>mP3 h.ba.2.2.1 w)) ?_;iterate 2 refine AA ?_
 refine AB (by exact AN (c:= .int .i64 ((u+2:Nat):Int)) rfl gg rfl rfl (fun w=>mU5 hu _ _ w)) ?_;refine AA ?_;refine AB (by exact Be rfl gg rfl rfl rfl sizeOf3 rfl (by simp) rfl) ?_;refine AA ?_;refine AB (by exact Be rfl gg rfl rfl rfl sizeOf3 rfl (by simp) rfl) ?_;iterate 3 refine k_g ?_
 iterate 2 refine AA ?_
 refine AB (by exact DC [13] rfl rfl gg rfl (eo func12) (n:=(wrT ((mC a s f g true pa (u+2) ky).whole r t)).1.length) (size:=1) (l:=(wrT ((mC a s f g true pa (u+2) ky).whole r t)).1.map b8) (y:= .int .i64 0) (by simp) (fun ρ S w' hb hR=>Nn (c:=(mC a s f g true pa (u+2) ky)) (d:=d) (r:=r) (t:=t) w' (hL.bw hb) (hK.bw hb) (hH.bw hb) (Nat.lt_of_lt_of_le hb1 hb.size) (Dq (id:=13) hR (by simp) rfl) hk.fit hk.rgt (fun w2 h2=>hk.made ((hL.bw hb).bw h2) ((hK.bw hb).bw h2) ((hH.bw hb).bw h2) (Nat.lt_of_lt_of_le (Nat.lt_of_lt_of_le hb1 hb.size) h2.size)))) ?_;iterate 10 refine AA ?_
 refine AB (by exact A0 (p:=false) rfl gg rfl rfl (by decide)) ?_;iterate 8 refine AA ?_
 refine AG ?_;refine AD (AM results6 (AE rfl)) ?_;intro ρ w' hr;exact⟨_,rfl,BR hr rfl,hr.1⟩
structure Chn(now use:Int)(n:Nat)(cs:Nat→Crt)(bs:Nat→List Nat)(Rs:List (List Nat)):Prop where
 n0:0<n
 n5:n≤5
 rd: ∀i,i<n→ ∃r t,rdC (bs i)=some (cs i,r,t)
 b8: ∀i,i<n→ ∀x∈bs i,x<256
 bl: ∀i,i<n→(bs i).length≤1048576
 t1: ∀i,i<n→decide (now<(cs i).fr)=false
 t2: ∀i,i<n→decide (now>(cs i).to)=false
 ca: ∀i,0<i→i<n→(cs i).ca=true∧decide ((cs i).pa≥(i:Int)-1)=true
 us: ∃x1 x2:Int,(∀(p q:Operand) (w:World),(do eqGuard .and 3 p q (.int .i64 (cs 0).us) (.int .i64 1);binOp .and 3 (.int .i64 (cs 0).us) (.int .i64 1):Sem Value).run prog w= .ok (.int .i64 x1) w)∧(∀(p q:Operand) (w:World),(do eqGuard .and 3 p q (.int .i64 (cs 0).us) (.int .i64 use);binOp .and 3 (.int .i64 (cs 0).us) (.int .i64 use):Sem Value).run prog w= .ok (.int .i64 x2) w)∧decide (x1≠0)=true∧decide (x2≠0)=true
 lk: ∀i,i+1<n→(cs (i+1)).su=(cs i).is∧DK (bs i) (cs (i+1)).ky=0
 rt:Rs.any (rok now (n-1) (cs (n-1)).is (bs (n-1)))=true
theorem Us{cs:Nat→Crt}{cv:Value}(h:Chn now use n cs bs Rs)(hi:i<n)(w:World):CBy 14 #[CHV cv rv now use,.int .i64 (i:Nat),CVV (cs i) kv] w .nilIface:=by
 obtain⟨x1,x2,hx1,hx2,hn1,hn2⟩:=h.us;have t1:=h.t1 i hi;have t2:=h.t2 i hi;have hca:=h.ca i;have hn5:=h.n5;clear h;rcases i with _|i
 ·obtain⟨c,hc⟩: ∃c,cs 0=c:=⟨_,rfl⟩
  rw[hc]at hx1 hx2 t1 t2⊢;obtain⟨se,is,su,fr,to,ky,ca,pa,us⟩:=c;cases ca
  ·exact XB w hx1 hx2 hn1 hn2 t1 t2
  ·exact XA w hx1 hx2 hn1 hn2 t1 t2
 ·obtain⟨c1,c2⟩:=hca (by omega) hi
  obtain⟨c,hc⟩: ∃c,cs (i+1)=c:=⟨_,rfl⟩
  rw[hc]at c1 c2 t1 t2⊢;obtain⟨se,is,su,fr,to,ky,ca,pa,us⟩:=c;have c1:ca=true:=c1;subst c1;exact nS w (by omega) (by omega) c2 t1 t2
theorem Nl{w:World}{base:Nat}{m:Mem}{cv:Value}{c:Crt}(k:Nat)(n:Int)(id:Nat)(R:Ending→World→Prop)(hR:RelOn base ρ S w (restr rd m))(hid:id∈rd)(hm:m id=some (.dat (Bg c)))
 (h: ∀kv,Calls prog k #[CHV cv rv now use,.int .i64 n,CVV c kv] w R):Calls prog k (SV.cs ρ [.agg [.v cv,.v rv,.v (.int .i64 now),.v (.int .i64 use)],.v (.int .i64 n),.agg [.v (.int .i64 c.se),.v (.string (AI c.is)),.v (.string (AI c.su)),.v (.int .i64 c.fr),.v (.int .i64 c.to),.fn (AU 5) (.d id),.v (.bool c.ca),.v (.int .i64 c.pa),.v (.int .i64 c.us)]]).toArray w R:=by
 obtain⟨kv,e1,_⟩:=N5 hR hid hm;have e:SV.cs ρ [.agg [.v cv,.v rv,.v (.int .i64 now),.v (.int .i64 use)],.v (.int .i64 n),.agg [.v (.int .i64 c.se),.v (.string (AI c.is)),.v (.string (AI c.su)),.v (.int .i64 c.fr),.v (.int .i64 c.to),.fn (AU 5) (.d id),.v (.bool c.ca),.v (.int .i64 c.pa),.v (.int .i64 c.us)]]=[CHV cv rv now use,.int .i64 n,CVV c kv]:=by simp only[SV.cs,e1];rfl
 rw[e];exact h kv
theorem gY{cv va vb:Value}{F Ga Gb:Nat→Prop}{a b:List Nat}{c d:Crt}(hL:Laid w)(hK:Au w)(hH:BD w)(hb1:8<w.heap.size)(hc:AJ w cv n 1 vs F)(hi:i+1<n)(hn:n≤5)(hva:vs[i]? =some va)(hvb:vs[i+1]? =some vb)(ha:AJ w va a.length 1 (a.map b8) Ga)(hb:AJ w vb b.length 1 (b.map b8) Gb)(a8: ∀x∈a,x<256)(al:a.length≤1048576)(b8': ∀x∈b,x<256)(bl:b.length≤1048576)(is8: ∀x∈c.is,x<256)(hrd:rdC b=some (d,r,t))(hsu:decide (d.su≠c.is)=false)(hsg:decide (DK a d.ky≠0)=false):CBy 15 #[CHV cv rv now use,.int .i64 (i:Nat),.agg #[.int .i64 c.se,.string (AI c.is),.string (AI c.su),.int .i64 c.fr,.int .i64 c.to,kv,.bool c.ca,.int .i64 c.pa,.int .i64 c.us]] w (.nilIface):=by
 have hd:=GL b8' bl hrd
 go_enter func15,ntmps15
 refine AO ?_;iterate 12 refine AA ?_
 refine AB (by exact BM rfl gg rfl underlying32 (AW hc)) ?_;refine AB (by exact CF (c:=((n:Nat):Int)-1) rfl gg rfl rfl (by rw[Af (by omega) (by omega)])) ?_;refine AB (by exact Ax (p:=false) rfl gg rfl rfl (decide_eq_false (by omega))) ?_;iterate 5 refine k_g ?_
 iterate 2 refine AA ?_
 refine Fc ?_;refine AB (by exact Cg (D:=Bg d) (ys:=[.nilIface]) [] rfl rfl gg rfl (eo func13) (fun ρ S w' hw hR=>Lk (i:=i+1) w' (hL.bw hw) (Aa hc hw) hi hvb (Aa hb hw) b8' bl hrd)) ?_;iterate 4 refine AA ?_
 refine AB (by exact Az (vl:=[.v (.int .i64 d.se),.v (.string (AI d.is)),.v (.string (AI d.su)),.v (.int .i64 d.fr),.v (.int .i64 d.to),.fn (AU 5) (.d 23),.v (.bool d.ca),.v (.int .i64 d.pa),.v (.int .i64 d.us)]) [23,7] rfl gg rfl rfl rfl sizeOf28 rfl (fun ρ S w' _ hR=>by obtain⟨kv,e,h⟩:=Ca (id:=23) hR (by simp) rfl;exact Ch e h) rfl (by simp)) ?_;iterate 7 refine AA ?_
 refine Hp ?_;iterate 5 refine AA ?_
 refine AB (by first|exact Cn rfl gg rfl underlying28 rfl sizeOf9|exact Cm rfl gg rfl underlying28 rfl sizeOf9) ?_;refine AB (by first|exact Cl rfl gg rfl rfl underlying9 rfl rfl|exact Ck rfl gg rfl underlying9 rfl (by assumption)) ?_;refine AB (by first|exact Cn rfl gg rfl underlying28 rfl sizeOf9|exact Cm rfl gg rfl underlying28 rfl sizeOf9) ?_;refine AB (by first|exact Cl rfl gg rfl rfl underlying9 rfl rfl|exact Ck rfl gg rfl underlying9 rfl (by assumption)) ?_;refine AB (by exact AN (c:= .bool false) rfl gg rfl rfl (fun w=>L5 hsu hd.2.1.s8 is8 _ _ w)) ?_;iterate 8 refine AA ?_
 refine AB (by exact BU (k:=i) rfl gg rfl rfl underlying32 sizeOf26 (AW hc) ((by omega)) (by decide)) ?_;refine AB (by exact B5 rfl gg rfl underlying26 rfl (AW hc) hva) ?_;refine AB (by first|exact Cn rfl gg rfl underlying28 rfl sizeOf26|exact Cm rfl gg rfl underlying28 rfl sizeOf26) ?_;refine AB (by first|exact Cl rfl gg rfl rfl underlying26 rfl rfl|exact Ck rfl gg rfl underlying26 rfl (by assumption)) ?_;refine AB (by exact Aj (v:= .int .i64 (DK a d.ky)) [23] rfl gg rfl (eo func25) (fun ρ S w' hw hR=>YV (c:=d) 23 (hL.bw hw) (hK.bw hw) (hH.bw hw) (Nat.lt_of_lt_of_le hb1 (Below.size hw)) (Aa ha hw) a8 al hd.2.1.k8 hR (by simp) rfl)) ?_;refine AB (by exact A0 (p:=false) rfl gg rfl rfl hsg) ?_;iterate 8 refine AA ?_
 exact AG (AD (AM results15 (AE rfl)) fun _ _ hr=>⟨rfl,hr.1⟩)
theorem Ur{cv:Value}{F:Nat→Prop}{cs:Nat→Crt}(hL:Laid w)(hK:Au w)(hH:BD w)(hb1:8<w.heap.size)(h:Chn now use n cs bs Rs)(hc:AJ w cv n 1 vs F)(hB: ∀i,i<n→ ∃v,vs[i]? =some v∧AJ w v (bs i).length 1 ((bs i).map b8) F')(hr1:AJ w rv Rs.length 1 us' G)(hr2:BZ w G Rs us')(hrl:Rs.length≤1048576)(hr8: ∀b∈Rs,(∀x∈b,x<256)∧b.length≤1048576)(hi:i<n):CBy 15 #[CHV cv rv now use,.int .i64 (i:Nat),CVV (cs i) kv] w .nilIface:=by
 have h5:=h.n5;obtain⟨v,hv1,hv2⟩:=hB i hi;obtain⟨r,t,hrd⟩:=h.rd i hi;have hs:=GL (h.b8 i hi) (h.bl i hi) hrd;rcases Nat.lt_or_ge (i+1) n with hlt|hge
 ·obtain⟨v',hw1,hw2⟩:=hB (i+1) hlt
  obtain⟨r',t',hrd'⟩:=h.rd (i+1) hlt;obtain⟨l1,l2⟩:=h.lk i hlt;exact gY (c:=cs i) w hL hK hH hb1 hc hlt h5 hv1 hw1 hv2 hw2 (h.b8 i hi) (h.bl i hi) (h.b8 _ hlt) (h.bl _ hlt) hs.2.1.i8 hrd' (decide_eq_false (fun e=>e l1)) (decide_eq_false (fun e=>e l2))
 ·have e:n-1=i:=by omega
  have hrt:=h.rt;rw[e]at hrt;exact VO (i:=i) (n:=n) w hL hK hH hb1 hc hi (by omega) hv1 hv2 (h.b8 i hi) (h.bl i hi) hs.2.1.i8 hr1 hr2 hrl hr8 (by omega) hrt
theorem nV{cv:Value}{F:Nat→Prop}{cs:Nat→Crt}(hL:Laid w)(hK:Au w)(hH:BD w)(hb1:8<w.heap.size)(h:Chn now use n cs bs Rs)(hc:AJ w cv n 1 vs F)(hB: ∀i,i<n→ ∃v,vs[i]? =some v∧AJ w v (bs i).length 1 ((bs i).map b8) F')(hr1:AJ w rv Rs.length 1 us' G)(hr2:BZ w G Rs us')(hrl:Rs.length≤1048576)(hr8: ∀b∈Rs,(∀x∈b,x<256)∧b.length≤1048576):Calls prog 9 #[CHV cv rv now use] w fun e w'=> ∃u,e= .returned (.tuple #[u,.nilIface])∧BO w w' u (Bg (cs 0))∧Bw w w':=by
 have h5:=h.n5
 go_enter func9,ntmps9
 refine AO ?_;iterate 9 refine AA ?_
 iterate 4 refine k_g ?_
 iterate 2 refine AA ?_
 refine AB (by exact BM rfl gg rfl underlying32 (AW hc)) ?_;iterate 3 refine AA ?_
 refine B7 (α:={i:Nat // i≤n}) (fun(x:{i:Nat // i≤n}) f=>⟨(.v (f 0):: .p 1 0:: .p 2 0:: .v .nilIface:: .p 4 0:: .v (f 5):: .v (f 6):: .v (f 7):: .v (f 8):: .v (f 9):: .v (.int .i64 (n:Nat)):: .v (.int .i64 (x.1:Nat))::fv f 29 12 []),match x.1 with|0=>AK [(4,.cells [.v (.int .i64 0),.v (.string (ByteArray.mk #[])),.v (.string (ByteArray.mk #[])),.v (.int .i64 0),.v (.int .i64 0),.v (.slice none 0 0),.v (.bool false),.v (.int .i64 0),.v (.int .i64 0)] 28),(2,.cells [.v (.int .i64 0),.v (.string (ByteArray.mk #[])),.v (.string (ByteArray.mk #[])),.v (.int .i64 0),.v (.int .i64 0),.v (.slice none 0 0),.v (.bool false),.v (.int .i64 0),.v (.int .i64 0)] 28),(1,.cells [.v cv,.v rv,.v (.int .i64 now),.v (.int .i64 use)] 42)]|_+1=>AK [(917,.dat (Bg (cs 0))),(4,.cells [.v (.int .i64 (cs 0).se),.v (.string (AI (cs 0).is)),.v (.string (AI (cs 0).su)),.v (.int .i64 (cs 0).fr),.v (.int .i64 (cs 0).to),.fn (AU 5) (.d 917),.v (.bool (cs 0).ca),.v (.int .i64 (cs 0).pa),.v (.int .i64 (cs 0).us)] 28),(2,.cells [.v (.int .i64 0),.v (.string (ByteArray.mk #[])),.v (.string (ByteArray.mk #[])),.v (.int .i64 0),.v (.int .i64 0),.v (.slice none 0 0),.v (.bool false),.v (.int .i64 0),.v (.int .i64 0)] 28),(1,.cells [.v cv,.v rv,.v (.int .i64 now),.v (.int .i64 use)] 42)]⟩) (fun x=>n-x.1) ?_ (⟨0,Nat.zero_le _⟩) ?_
 ·rintro⟨i,hi⟩ f
  have h3:i=0∨(∃j,i=j+1∧j+1<n)∨(∃j,i=j+1∧j+1=n):=by
   rcases i with _|j
   ·exact .inl rfl
   ·rcases Nat.lt_or_ge (j+1) n with h1|h1
    ·exact .inr (.inl ⟨j,rfl,h1⟩)
    ·exact .inr (.inr ⟨j,rfl,by omega⟩)
  rcases h3 with rfl|⟨j,rfl,hlt⟩|⟨j,rfl,hlt⟩
  ·have hi:0<n:=h.n0
   obtain⟨v,hv1,hv2⟩:=hB (0) hi;obtain⟨r,t,hrd⟩:=h.rd (0) hi;have hs:=GL (h.b8 _ hi) (h.bl _ hi) hrd;change VOk _ _ ⟨(.v (f 0):: .p 1 0:: .p 2 0:: .v .nilIface:: .p 4 0:: .v (f 5):: .v (f 6):: .v (f 7):: .v (f 8):: .v (f 9):: .v (.int .i64 (n:Nat)):: .v (.int .i64 (0:Nat)):: .v (f 12):: .v (f 13):: .v (f 14):: .v (f 15):: .v (f 16):: .v (f 17):: .v (f 18):: .v (f 19):: .v (f 20):: .v (f 21):: .v (f 22):: .v (f 23):: .v (f 24):: .v (f 25):: .v (f 26):: .v (f 27):: .v (f 28):: .v (f 29):: .v (f 30):: .v (f 31):: .v (f 32):: .v (f 33):: .v (f 34):: .v (f 35):: .v (f 36):: .v (f 37):: .v (f 38):: .v (f 39):: .v (f 40)::[]),AK [(4,.cells [.v (.int .i64 0),.v (.string (ByteArray.mk #[])),.v (.string (ByteArray.mk #[])),.v (.int .i64 0),.v (.int .i64 0),.v (.slice none 0 0),.v (.bool false),.v (.int .i64 0),.v (.int .i64 0)] 28),(2,.cells [.v (.int .i64 0),.v (.string (ByteArray.mk #[])),.v (.string (ByteArray.mk #[])),.v (.int .i64 0),.v (.int .i64 0),.v (.slice none 0 0),.v (.bool false),.v (.int .i64 0),.v (.int .i64 0)] 28),(1,.cells [.v cv,.v rv,.v (.int .i64 now),.v (.int .i64 use)] 42)]⟩ _ _;change VOk _ _ _ _ _;simp only[fv,Nat.reduceAdd];iterate 2 refine k_g ?_
   refine NV ?_;iterate 15 refine AA ?_
   refine AB (by exact Cg (D:=Bg (cs 0)) (ys:=[.nilIface]) [] rfl rfl gg rfl (eo func13) (fun ρ S w' hw hR=>Lk (i:=0) w' (hL.bw hw) (Aa hc hw) hi hv1 (Aa hv2 hw) (h.b8 _ hi) (h.bl _ hi) hrd)) ?_;iterate 4 refine AA ?_
   refine e_4 ?_;iterate 6 refine AA ?_
   refine Ho ?_;iterate 3 refine k_g ?_
   iterate 3 refine AA ?_
   refine AB (by exact Aj (v:= .nilIface) [17] rfl gg rfl (eo func14) (fun ρ S w' hw hR=>Nl 14 ((0:Nat):Int) 17 _ hR (by simp) rfl (fun kv=>Us h hi w'))) ?_;iterate 6 refine AA ?_
   refine Ho ?_;iterate 3 refine k_g ?_
   iterate 3 refine AA ?_
   refine AB (by exact Aj (v:= .nilIface) [17] rfl gg rfl (eo func15) (fun ρ S w' hw hR=>Nl 15 ((0:Nat):Int) 17 _ hR (by simp) rfl (fun kv=>Ur w' (hL.bw hw) (hK.bw hw) (hH.bw hw) (Nat.lt_of_lt_of_le hb1 (Below.size hw)) h (Aa hc hw) (fun i hi=>(hB i hi).imp fun v hv=>⟨hv.1,Aa hv.2 hw⟩) (Aa hr1 hw) (Gn hw hr2) hrl hr8 hi))) ?_;iterate 6 refine AA ?_
   refine Hp ?_;iterate 6 refine AA ?_
   refine AB (by exact Ax (p:=true) rfl gg rfl rfl (by decide)) ?_;iterate 3 refine k_g ?_
   refine AA ?_;refine e_4 ?_;iterate 2 refine k_g ?_
   refine AB (by exact A2 (c:=((0+1:Nat):Int)) rfl gg rfl rfl (by rw[Af (by omega) (by omega)];omega)) ?_;iterate 2 refine AA ?_
   refine⟨⟨1,hi⟩,by show n-1<n-0;omega,?_⟩;exact(Al (fun i=>i==1||i==2||i==3||i==4||i==10||i==11) [6]).trans2 (fun f=>DI 17 917 (by decide) rfl)
  ·have hi:j+1<n:=hlt
   obtain⟨v,hv1,hv2⟩:=hB ((j+1)) hi;obtain⟨r,t,hrd⟩:=h.rd ((j+1)) hi;have hs:=GL (h.b8 _ hi) (h.bl _ hi) hrd;change VOk _ _ ⟨(.v (f 0):: .p 1 0:: .p 2 0:: .v .nilIface:: .p 4 0:: .v (f 5):: .v (f 6):: .v (f 7):: .v (f 8):: .v (f 9):: .v (.int .i64 (n:Nat)):: .v (.int .i64 ((j+1):Nat)):: .v (f 12):: .v (f 13):: .v (f 14):: .v (f 15):: .v (f 16):: .v (f 17):: .v (f 18):: .v (f 19):: .v (f 20):: .v (f 21):: .v (f 22):: .v (f 23):: .v (f 24):: .v (f 25):: .v (f 26):: .v (f 27):: .v (f 28):: .v (f 29):: .v (f 30):: .v (f 31):: .v (f 32):: .v (f 33):: .v (f 34):: .v (f 35):: .v (f 36):: .v (f 37):: .v (f 38):: .v (f 39):: .v (f 40)::[]),AK [(917,.dat (Bg (cs 0))),(4,.cells [.v (.int .i64 (cs 0).se),.v (.string (AI (cs 0).is)),.v (.string (AI (cs 0).su)),.v (.int .i64 (cs 0).fr),.v (.int .i64 (cs 0).to),.fn (AU 5) (.d 917),.v (.bool (cs 0).ca),.v (.int .i64 (cs 0).pa),.v (.int .i64 (cs 0).us)] 28),(2,.cells [.v (.int .i64 0),.v (.string (ByteArray.mk #[])),.v (.string (ByteArray.mk #[])),.v (.int .i64 0),.v (.int .i64 0),.v (.slice none 0 0),.v (.bool false),.v (.int .i64 0),.v (.int .i64 0)] 28),(1,.cells [.v cv,.v rv,.v (.int .i64 now),.v (.int .i64 use)] 42)]⟩ _ _;change VOk _ _ _ _ _;iterate 2 refine k_g ?_
   refine NV ?_;iterate 15 refine AA ?_
   refine AB (by exact Cg (D:=Bg (cs (j+1))) (ys:=[.nilIface]) [] rfl rfl gg rfl (eo func13) (fun ρ S w' hw hR=>Lk (i:=(j+1)) w' (hL.bw hw) (Aa hc hw) hi hv1 (Aa hv2 hw) (h.b8 _ hi) (h.bl _ hi) hrd)) ?_;iterate 4 refine AA ?_
   refine AB (by first|exact Az (vl:=[.v (.int .i64 (cs (j+1)).se),.v (.string (AI (cs (j+1)).is)),.v (.string (AI (cs (j+1)).su)),.v (.int .i64 (cs (j+1)).fr),.v (.int .i64 (cs (j+1)).to),.fn (AU 5) (.d 17),.v (.bool (cs (j+1)).ca),.v (.int .i64 (cs (j+1)).pa),.v (.int .i64 (cs (j+1)).us)]) [17,6] rfl gg rfl rfl rfl sizeOf28 rfl (fun ρ S w' _ hR=>by obtain⟨kv,e,h⟩:=Ca (id:=17) hR (by simp) rfl;exact Ch e h) rfl (by simp)) ?_;iterate 6 refine AA ?_
   refine Ho ?_;iterate 3 refine k_g ?_
   iterate 3 refine AA ?_
   refine AB (by exact Aj (v:= .nilIface) [17] rfl gg rfl (eo func14) (fun ρ S w' hw hR=>Nl 14 (((j+1):Nat):Int) 17 _ hR (by simp) rfl (fun kv=>Us h hi w'))) ?_;iterate 6 refine AA ?_
   refine Ho ?_;iterate 3 refine k_g ?_
   iterate 3 refine AA ?_
   refine AB (by exact Aj (v:= .nilIface) [17] rfl gg rfl (eo func15) (fun ρ S w' hw hR=>Nl 15 (((j+1):Nat):Int) 17 _ hR (by simp) rfl (fun kv=>Ur w' (hL.bw hw) (hK.bw hw) (hH.bw hw) (Nat.lt_of_lt_of_le hb1 (Below.size hw)) h (Aa hc hw) (fun i hi=>(hB i hi).imp fun v hv=>⟨hv.1,Aa hv.2 hw⟩) (Aa hr1 hw) (Gn hw hr2) hrl hr8 hi))) ?_;iterate 6 refine AA ?_
   refine Hp ?_;iterate 6 refine AA ?_
   refine AB (by exact Ax (p:=false) rfl gg rfl rfl (decide_eq_false (by omega))) ?_;iterate 4 refine k_g ?_
   refine AB (by exact A2 (c:=(((j+1)+1:Nat):Int)) rfl gg rfl rfl (by rw[Af (by omega) (by omega)];omega)) ?_;iterate 2 refine AA ?_
   refine⟨⟨j+2,by omega⟩,by show n-(j+2)<n-(j+1);omega,?_⟩;exact Al (fun i=>i==1||i==2||i==3||i==4||i==10||i==11) [6,17]
  ·change VOk _ _ ⟨(.v (f 0):: .p 1 0:: .p 2 0:: .v .nilIface:: .p 4 0:: .v (f 5):: .v (f 6):: .v (f 7):: .v (f 8):: .v (f 9):: .v (.int .i64 (n:Nat)):: .v (.int .i64 ((j+1):Nat)):: .v (f 12):: .v (f 13):: .v (f 14):: .v (f 15):: .v (f 16):: .v (f 17):: .v (f 18):: .v (f 19):: .v (f 20):: .v (f 21):: .v (f 22):: .v (f 23):: .v (f 24):: .v (f 25):: .v (f 26):: .v (f 27):: .v (f 28):: .v (f 29):: .v (f 30):: .v (f 31):: .v (f 32):: .v (f 33):: .v (f 34):: .v (f 35):: .v (f 36):: .v (f 37):: .v (f 38):: .v (f 39):: .v (f 40)::[]),AK [(917,.dat (Bg (cs 0))),(4,.cells [.v (.int .i64 (cs 0).se),.v (.string (AI (cs 0).is)),.v (.string (AI (cs 0).su)),.v (.int .i64 (cs 0).fr),.v (.int .i64 (cs 0).to),.fn (AU 5) (.d 917),.v (.bool (cs 0).ca),.v (.int .i64 (cs 0).pa),.v (.int .i64 (cs 0).us)] 28),(2,.cells [.v (.int .i64 0),.v (.string (ByteArray.mk #[])),.v (.string (ByteArray.mk #[])),.v (.int .i64 0),.v (.int .i64 0),.v (.slice none 0 0),.v (.bool false),.v (.int .i64 0),.v (.int .i64 0)] 28),(1,.cells [.v cv,.v rv,.v (.int .i64 now),.v (.int .i64 use)] 42)]⟩ _ _
   change VOk _ _ _ _ _;iterate 2 refine k_g ?_
   refine LA ?_;iterate 3 refine k_g ?_
   refine Aq ?_;change VOk _ _ _ _ _;iterate 2 refine k_g ?_
   refine AA ?_;refine AB (by exact Az (vl:=[.v (.int .i64 (cs 0).se),.v (.string (AI (cs 0).is)),.v (.string (AI (cs 0).su)),.v (.int .i64 (cs 0).fr),.v (.int .i64 (cs 0).to),.fn (AU 5) (.d 917),.v (.bool (cs 0).ca),.v (.int .i64 (cs 0).pa),.v (.int .i64 (cs 0).us)]) [917,2] rfl gg rfl rfl rfl sizeOf28 rfl (fun ρ S w' _ hR=>⟨CG _,by obtain⟨kv,e,h⟩:=Ca (id:=917) hR (by simp) rfl;exact(Ch e h).2⟩) rfl (by simp)) ?_;iterate 2 refine AA ?_
   refine AG ?_;refine AD (Av results9 (BN rfl rfl underlying28 rfl sizeOf28 rfl) (AE rfl)) ?_;intro ρ w' hr;exact⟨_,rfl,HI 917 hr rfl,hr.1⟩
 ·exact Al (fun i=>i==1||i==2||i==3||i==4||i==10||i==11) []
theorem qK{cv:Value}{F:Nat→Prop}{cs:Nat→Crt}(hL:Laid w)(hK:Au w)(hH:BD w)(hb1:8<w.heap.size)(h:Chn now 4 n cs bs Rs)(hc:AJ w cv n 1 vs F)(hB: ∀i,i<n→ ∃v,vs[i]? =some v∧AJ w v (bs i).length 1 ((bs i).map b8) F')(hr1:AJ w rv Rs.length 1 us' G)(hr2:BZ w G Rs us')(hrl:Rs.length≤1048576)(hr8: ∀b∈Rs,(∀x∈b,x<256)∧b.length≤1048576):Calls prog 4 #[cv,rv,.int .i64 now,.int .i64 4] w fun e w'=> ∃u,e= .returned (.tuple #[u,.int .i64 0,.int .i64 0])∧BO w w' u (Bg (cs 0))∧Bw w w':=by
 have h5:=h.n5;have h0:=h.n0;have hc':=hc;have hr1':=hr1;obtain⟨ao,cap,ecv,_⟩:=hc;obtain⟨ao2,cap2,erv,_⟩:=hr1;subst ecv erv
 go_enter func4,ntmps4
 refine AO ?_;iterate 2 refine k_g ?_
 iterate 8 refine AA ?_
 refine AB (by exact BM rfl gg rfl underlying32 (AW hc')) ?_;refine LA ?_;iterate 2 refine AA ?_
 refine AB (by first|exact Ev.skip (fun _=>rfl)|exact BM rfl (fun _=>rfl) rfl underlying32 (AW hc')) ?_;refine AB (by first|exact Ev.skip (fun _=>rfl)|exact Bf (p:=false) rfl (fun _=>rfl) rfl rfl (decide_eq_false (by omega))) ?_;iterate 3 refine AA ?_
 refine AB (by first|exact Ev.skip (fun _=>rfl)|exact A0 (p:=false) rfl (fun _=>rfl) rfl rfl (by decide)) ?_;iterate 2 refine AA ?_
 refine AB (by first|exact Ev.skip (fun _=>rfl)|exact A0 (p:=true) rfl (fun _=>rfl) rfl rfl (by decide)) ?_;iterate 11 refine AA ?_
 refine AB (by exact Ar rfl gg rfl (RF _ _ _ _ _ _ _ _)) ?_;refine Xl ?_;iterate 4 refine AA ?_
 refine e_0 ?_;iterate 6 refine AA ?_
 refine Hp ?_;iterate 5 refine k_g ?_
 refine AA ?_;refine e_0 ?_;iterate 3 refine AA ?_
 refine AG ?_;refine AD (B9 results4 (BN rfl rfl underlying28 rfl sizeOf28 rfl) (AE rfl) (AE rfl)) ?_;intro ρ w' hr;exact⟨_,rfl,HI 38 hr rfl,hr.1⟩
theorem qJ{cv:Value}{F:Nat→Prop}{cs:Nat→Crt}(hL:Laid w)(hK:Au w)(hH:BD w)(hb1:8<w.heap.size)(h:Chn now 8 n cs bs Rs)(hc:AJ w cv n 1 vs F)(hB: ∀i,i<n→ ∃v,vs[i]? =some v∧AJ w v (bs i).length 1 ((bs i).map b8) F')(hr1:AJ w rv Rs.length 1 us' G)(hr2:BZ w G Rs us')(hrl:Rs.length≤1048576)(hr8: ∀b∈Rs,(∀x∈b,x<256)∧b.length≤1048576):Calls prog 4 #[cv,rv,.int .i64 now,.int .i64 8] w fun e w'=> ∃u,e= .returned (.tuple #[u,.int .i64 0,.int .i64 0])∧BO w w' u (Bg (cs 0))∧Bw w w':=by
 have h5:=h.n5;have h0:=h.n0;have hc':=hc;have hr1':=hr1;obtain⟨ao,cap,ecv,_⟩:=hc;obtain⟨ao2,cap2,erv,_⟩:=hr1;subst ecv erv
 go_enter func4,ntmps4
 refine AO ?_;iterate 2 refine k_g ?_
 iterate 8 refine AA ?_
 refine AB (by exact BM rfl gg rfl underlying32 (AW hc')) ?_;refine LA ?_;iterate 2 refine AA ?_
 refine AB (by first|exact Ev.skip (fun _=>rfl)|exact BM rfl (fun _=>rfl) rfl underlying32 (AW hc')) ?_;refine AB (by first|exact Ev.skip (fun _=>rfl)|exact Bf (p:=false) rfl (fun _=>rfl) rfl rfl (decide_eq_false (by omega))) ?_;iterate 3 refine AA ?_
 refine AB (by first|exact Ev.skip (fun _=>rfl)|exact A0 (p:=true) rfl (fun _=>rfl) rfl rfl (by decide)) ?_;iterate 2 refine AA ?_
 refine AB (by first|exact Ev.skip (fun _=>rfl)|exact A0 (p:=false) rfl (fun _=>rfl) rfl rfl (by decide)) ?_;iterate 11 refine AA ?_
 refine AB (by exact Ar rfl gg rfl (RF _ _ _ _ _ _ _ _)) ?_;refine Xl ?_;iterate 4 refine AA ?_
 refine e_0 ?_;iterate 6 refine AA ?_
 refine Hp ?_;iterate 5 refine k_g ?_
 refine AA ?_;refine e_0 ?_;iterate 3 refine AA ?_
 refine AG ?_;refine AD (B9 results4 (BN rfl rfl underlying28 rfl sizeOf28 rfl) (AE rfl) (AE rfl)) ?_;intro ρ w' hr;exact⟨_,rfl,HI 38 hr rfl,hr.1⟩
theorem YP{cv:Value}{F:Nat→Prop}(hc:AJ w cv 6 1 vs F):CBy 4 #[cv,rv,.int .i64 now,.int .i64 use] w (.tuple #[CZ,.int .i64 0,.int .i64 1]):=by
 go_enter func4,ntmps4
 refine AO ?_;iterate 2 refine k_g ?_
 iterate 8 refine AA ?_
 refine AB (by exact BM rfl gg rfl underlying32 (AW hc)) ?_;refine AB (by exact A4 (p:=false) rfl gg rfl rfl (by decide)) ?_;iterate 2 refine AA ?_
 refine AB (by first|exact Ev.skip (fun _=>rfl)|exact BM rfl (fun _=>rfl) rfl underlying32 (AW hc)) ?_;refine AB (by first|exact Ev.skip (fun _=>rfl)|exact Bf (p:=true) rfl (fun _=>rfl) rfl rfl (by decide)) ?_;iterate 3 refine AA ?_
 refine DW ?_;iterate 2 refine AA ?_
 refine DW ?_;iterate 6 refine AA ?_
 refine AB (by exact Ar rfl gg rfl Yj) ?_;refine AB (by exact Be rfl gg rfl rfl rfl sizeOf28 rfl (by simp) rfl) ?_;iterate 3 refine AA ?_
 exact AG (AD (B9 results4 (Ad rfl rfl underlying28 rfl sizeOf28 rfl rfl) (AE rfl) (AE rfl)) fun _ _ hr=>⟨rfl,hr.1⟩)
end Go.Proofs.YtefpajmkaaielaaGreatDoor
