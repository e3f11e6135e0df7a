import Derived.Test.YtefpajmkaaielaaGreatDoorW18
open Go.Proofs.Tryz
set_option maxHeartbeats 4000000
set_option maxRecDepth 100000
namespace Go.Proofs.YtefpajmkaaielaaGreatDoor
open Go.RowKit Go.Vx
variable(w:World){ops:Array Oper}{t:Array TypeId}{rd:List Nat}{o:Oper}{P:Program}{s:VS}{w0:World}
open TollMont
open Go.Toll (Gw)
open TollEc (F pp cb Jp Pt AZ add base nn neg)
open TollSha (sha Ap)
abbrev bg1:Nat:=904625697166532776746648320380374280103671755200316906558262375061821325313
abbrev bg2:Nat:=904625697166532776746648320380374280103671755200316906558262375061821325314
abbrev bg3:Nat:=91641478266143319200409962979497838403251612625275892787359574695720535655184
abbrev bg4:Nat:=34359785920783616614347124149629303463568371124378962494315311719422531698393
abbrev bg5:Nat:=1114083266420058096696744489585543328269632961737434276984120145359717981390
abbrev bg6:Nat:=86081644980612971697070882193903715326289650179523083670499400885591605164653
abbrev Fy:Nat:=904625697166532776746648320380374280103671755200316906558262375061821325312
abbrev Fx:Nat:=56886949867740122010253361878746430434109839984233776550138665916646959869401
abbrev Fw:Nat:=46994010147077839536096238295903021041732150136569860618743525525297807157112
abbrev Hw:Nat:=91105468776080713447366427506499164835164257448506515314712055801631781495301
abbrev Gs:Nat:=78031832603277006369249295630671527854078136403097783988766551517861752108067
abbrev Ys:Nat:=112596371597197100889482377337362517161391915316287673230561898602230266265605
abbrev Yr:Nat:=68579117379619519081561212243653155051822368535173673057186209172486927593438
abbrev RO:Nat:=27736401506356009678151584350625309620559322027640608757190718808065438600109
abbrev RN:Nat:=24383916470466462557263339101769807051726531779280093914401902155669565827375
abbrev RL:Nat:=58124906515089311515528126181737800817740198088979743776751707102202465958326
abbrev RJ:Nat:=91205184884267670465302164274522387940326570890094221309063588548904845814743
abbrev rZ:Nat:=91817081492374393079017849818169213888974820355251278123165990121002774825916
abbrev Yq:Nat:=37131138443545373274585903900838684485787008599997921362859582774533353690053
theorem Wh:AZ Fy base= .aff (112596371597197100889482377337362517161391915316287673230561898602230266265605:F) (68579117379619519081561212243653155051822368535173673057186209172486927593438:F):=by
 have e:=TollEc.ladder_all Fy (by decide) TollEc.bj (by rw[TollEc.bj_rep];exact TollEc.base_on);have hz:(TollEc.ladder Fy TollEc.bj 256).z*78535092148917830891011000457024454525989573918470696287611742314052017695396=1:=by decide+kernel
 have hx:(TollEc.ladder Fy TollEc.bj 256).x*((78535092148917830891011000457024454525989573918470696287611742314052017695396:F)*78535092148917830891011000457024454525989573918470696287611742314052017695396)=112596371597197100889482377337362517161391915316287673230561898602230266265605:=by decide+kernel
 have hy:(TollEc.ladder Fy TollEc.bj 256).y*((78535092148917830891011000457024454525989573918470696287611742314052017695396:F)*(78535092148917830891011000457024454525989573918470696287611742314052017695396*78535092148917830891011000457024454525989573918470696287611742314052017695396))=68579117379619519081561212243653155051822368535173673057186209172486927593438:=by decide+kernel
 rw[TollEc.bj_rep,TollEc.rep_of hz,hx,hy]at e;exact e.symm
def Bm:List Nat:=kyL Ys Yr
theorem mX:xv (.aff (112596371597197100889482377337362517161391915316287673230561898602230266265605:F) (68579117379619519081561212243653155051822368535173673057186209172486927593438:F))=Ys:=by decide+kernel
theorem mW:yv (.aff (112596371597197100889482377337362517161391915316287673230561898602230266265605:F) (68579117379619519081561212243653155051822368535173673057186209172486927593438:F))=Yr:=by decide+kernel
theorem mY:wl (.aff (112596371597197100889482377337362517161391915316287673230561898602230266265605:F) (68579117379619519081561212243653155051822368535173673057186209172486927593438:F))=Bm.map b8:=by
 rw[Bm,←G2];have h1:=mX;have h2:=mW;unfold wl;first|rw[h1,h2]|(simp only[xv,yv]at h1 h2 ⊢; rw[h1,h2])
theorem mZ:(Pt.aff (112596371597197100889482377337362517161391915316287673230561898602230266265605:F) (68579117379619519081561212243653155051822368535173673057186209172486927593438:F)).on:=HQ Wh
theorem Wg:kyB Bm=true:=by decide+kernel
theorem QY:AZ bg1 base= .aff (27736401506356009678151584350625309620559322027640608757190718808065438600109:F) (24383916470466462557263339101769807051726531779280093914401902155669565827375:F):=by
 have e:=TollEc.ladder_all bg1 (by decide) TollEc.bj (by rw[TollEc.bj_rep];exact TollEc.base_on);have hz:(TollEc.ladder bg1 TollEc.bj 256).z*44107168375111944912648364509830323097486460221033603987746361302382060614973=1:=by decide+kernel
 have hx:(TollEc.ladder bg1 TollEc.bj 256).x*((44107168375111944912648364509830323097486460221033603987746361302382060614973:F)*44107168375111944912648364509830323097486460221033603987746361302382060614973)=27736401506356009678151584350625309620559322027640608757190718808065438600109:=by decide+kernel
 have hy:(TollEc.ladder bg1 TollEc.bj 256).y*((44107168375111944912648364509830323097486460221033603987746361302382060614973:F)*(44107168375111944912648364509830323097486460221033603987746361302382060614973*44107168375111944912648364509830323097486460221033603987746361302382060614973))=24383916470466462557263339101769807051726531779280093914401902155669565827375:=by decide+kernel
 rw[TollEc.bj_rep,TollEc.rep_of hz,hx,hy]at e;exact e.symm
def Ao:List Nat:=kyL RO RN
theorem mQ:xv (.aff (27736401506356009678151584350625309620559322027640608757190718808065438600109:F) (24383916470466462557263339101769807051726531779280093914401902155669565827375:F))=RO:=by decide+kernel
theorem mP:yv (.aff (27736401506356009678151584350625309620559322027640608757190718808065438600109:F) (24383916470466462557263339101769807051726531779280093914401902155669565827375:F))=RN:=by decide+kernel
theorem mR:wl (.aff (27736401506356009678151584350625309620559322027640608757190718808065438600109:F) (24383916470466462557263339101769807051726531779280093914401902155669565827375:F))=Ao.map b8:=by
 rw[Ao,←G2];have h1:=mQ;have h2:=mP;unfold wl;first|rw[h1,h2]|(simp only[xv,yv]at h1 h2 ⊢; rw[h1,h2])
theorem mS:(Pt.aff (27736401506356009678151584350625309620559322027640608757190718808065438600109:F) (24383916470466462557263339101769807051726531779280093914401902155669565827375:F)).on:=HQ QY
theorem Kv:kyB Ao=true:=by decide+kernel
theorem mV:kX Ao=RO:=by decide+kernel
theorem mT:kY Ao=RN:=by decide+kernel
theorem We:toP (kX Ao) (kY Ao)=AZ bg1 base:=by
 rw[mV,mT,QY];unfold toP;rw[dif_pos (by decide),if_pos (by decide+kernel)];rfl
theorem QX:AZ bg2 base= .aff (58124906515089311515528126181737800817740198088979743776751707102202465958326:F) (91205184884267670465302164274522387940326570890094221309063588548904845814743:F):=by
 have e:=TollEc.ladder_all bg2 (by decide) TollEc.bj (by rw[TollEc.bj_rep];exact TollEc.base_on);have hz:(TollEc.ladder bg2 TollEc.bj 256).z*83590550526179825750682507386081446145171168068892406642439979247404183625987=1:=by decide+kernel
 have hx:(TollEc.ladder bg2 TollEc.bj 256).x*((83590550526179825750682507386081446145171168068892406642439979247404183625987:F)*83590550526179825750682507386081446145171168068892406642439979247404183625987)=58124906515089311515528126181737800817740198088979743776751707102202465958326:=by decide+kernel
 have hy:(TollEc.ladder bg2 TollEc.bj 256).y*((83590550526179825750682507386081446145171168068892406642439979247404183625987:F)*(83590550526179825750682507386081446145171168068892406642439979247404183625987*83590550526179825750682507386081446145171168068892406642439979247404183625987))=91205184884267670465302164274522387940326570890094221309063588548904845814743:=by decide+kernel
 rw[TollEc.bj_rep,TollEc.rep_of hz,hx,hy]at e;exact e.symm
def Ay:List Nat:=kyL RL RJ
theorem mG:xv (.aff (58124906515089311515528126181737800817740198088979743776751707102202465958326:F) (91205184884267670465302164274522387940326570890094221309063588548904845814743:F))=RL:=by decide+kernel
theorem mD:yv (.aff (58124906515089311515528126181737800817740198088979743776751707102202465958326:F) (91205184884267670465302164274522387940326570890094221309063588548904845814743:F))=RJ:=by decide+kernel
theorem mH:wl (.aff (58124906515089311515528126181737800817740198088979743776751707102202465958326:F) (91205184884267670465302164274522387940326570890094221309063588548904845814743:F))=Ay.map b8:=by
 rw[Ay,←G2];have h1:=mG;have h2:=mD;unfold wl;first|rw[h1,h2]|(simp only[xv,yv]at h1 h2 ⊢; rw[h1,h2])
theorem mJ:(Pt.aff (58124906515089311515528126181737800817740198088979743776751707102202465958326:F) (91205184884267670465302164274522387940326570890094221309063588548904845814743:F)).on:=HQ QX
theorem NB:kyB Ay=true:=by decide+kernel
theorem mM:kX Ay=RL:=by decide+kernel
theorem mL:kY Ay=RJ:=by decide+kernel
theorem mN:toP (kX Ay) (kY Ay)=AZ bg2 base:=by
 rw[mM,mL,QX];unfold toP;rw[dif_pos (by decide),if_pos (by decide+kernel)];rfl
theorem qz:prog.built 46 [(31,.int .u8 0),(0,.int .u8 2)]=some (B32 Fy).cells:=by kernel_rfl
theorem qy:prog.built 46 [(31,.int .u8 1),(0,.int .u8 2)]=some (B32 bg1).cells:=by kernel_rfl
theorem qx:prog.built 46 [(31,.int .u8 2),(0,.int .u8 2)]=some (B32 bg2).cells:=by kernel_rfl
theorem k7(hL:Laid w):Calls prog 11 #[.int .u8 0] w fun e w'=> ∃v,e= .returned (.tuple #[B32 Fy,v])∧BJ w w' v 65 1 5 (Bm.map b8)∧Bw w w':=by
 go_enter func11,ntmps11
 refine AO ?_;iterate 2 refine k_g ?_
 iterate 6 refine AA ?_
 refine AB (by exact Ar (cells:=(B32 Fy).cells) rfl gg rfl qz) ?_;iterate 2 refine AA ?_
 iterate 3 refine k_g ?_
 refine AA ?_;refine AB (by exact DC [] rfl rfl gg rfl (eo func17) (n:=65) (size:=1) (l:=Bm.map b8) (y:= .int .i64 0) (by rfl) (fun ρ S w' hb hR=>by have a:=HO (a:=Fy) (by decide) w' (hL.bw hb) (by decide) Wh mZ;rw[mY]at a;exact a)) ?_;iterate 13 refine AA ?_
 refine AG ?_;refine AD (Av results11 (Ad rfl rfl underlying46 rfl sizeOf46 rfl rfl) (AE rfl)) ?_;intro ρ w' hr;exact⟨_,rfl,BR hr rfl,hr.1⟩
theorem Vj(hL:Laid w):Calls prog 11 #[.int .u8 1] w fun e w'=> ∃v,e= .returned (.tuple #[B32 bg1,v])∧BJ w w' v 65 1 5 (Ao.map b8)∧Bw w w':=by
 go_enter func11,ntmps11
 refine AO ?_;iterate 2 refine k_g ?_
 iterate 6 refine AA ?_
 refine AB (by exact Ar (cells:=(B32 bg1).cells) rfl gg rfl qy) ?_;iterate 2 refine AA ?_
 iterate 3 refine k_g ?_
 refine AA ?_;refine AB (by exact DC [] rfl rfl gg rfl (eo func17) (n:=65) (size:=1) (l:=Ao.map b8) (y:= .int .i64 0) (by rfl) (fun ρ S w' hb hR=>by have a:=HO (a:=bg1) (by decide) w' (hL.bw hb) (by decide) QY mS;rw[mR]at a;exact a)) ?_;iterate 13 refine AA ?_
 refine AG ?_;refine AD (Av results11 (Ad rfl rfl underlying46 rfl sizeOf46 rfl rfl) (AE rfl)) ?_;intro ρ w' hr;exact⟨_,rfl,BR hr rfl,hr.1⟩
theorem Vi(hL:Laid w):Calls prog 11 #[.int .u8 2] w fun e w'=> ∃v,e= .returned (.tuple #[B32 bg2,v])∧BJ w w' v 65 1 5 (Ay.map b8)∧Bw w w':=by
 go_enter func11,ntmps11
 refine AO ?_;iterate 2 refine k_g ?_
 iterate 6 refine AA ?_
 refine AB (by exact Ar (cells:=(B32 bg2).cells) rfl gg rfl qx) ?_;iterate 2 refine AA ?_
 iterate 3 refine k_g ?_
 refine AA ?_;refine AB (by exact DC [] rfl rfl gg rfl (eo func17) (n:=65) (size:=1) (l:=Ay.map b8) (y:= .int .i64 0) (by rfl) (fun ρ S w' hb hR=>by have a:=HO (a:=bg2) (by decide) w' (hL.bw hb) (by decide) QX mJ;rw[mH]at a;exact a)) ?_;iterate 13 refine AA ?_
 refine AG ?_;refine AD (Av results11 (Ad rfl rfl underlying46 rfl sizeOf46 rfl rfl) (AE rfl)) ?_;intro ρ w' hr;exact⟨_,rfl,BR hr rfl,hr.1⟩
def tA:Crt:=⟨7,[110,98],[110,97],0,9,Bm,false,0,5⟩
def tB:Crt:=⟨7,[110,98],[110,98],0,9,Ao,true,0,2⟩
def tF:Crt:=⟨7,[110,98],[110,98],0,9,Ao,true,0,3⟩
theorem bH:BK tF=Fx:=by decide+kernel
theorem Sr:nK1 bg1 Fx=[90,207,179,78,18,4,46,211,78,162,106,230,215,187,207,134,142,129,157,235,127,246,221,164,155,241,46,4,236,40,107,133]:=by decide+kernel
theorem Sp:nV1 bg1 Fx=[9,101,34,43,43,93,237,254,88,124,113,215,105,145,206,136,174,173,153,246,35,61,43,173,164,196,98,202,103,2,99,28]:=by unfold nV1;rw[Sr];decide+kernel
theorem Sq:nK2 bg1 Fx=[236,61,47,153,2,102,17,0,114,11,31,25,172,51,196,107,61,22,182,201,40,17,69,82,100,239,247,4,122,87,203,108]:=by unfold nK2;rw[Sr,Sp];decide+kernel
theorem bK:nV2 bg1 Fx=[199,95,1,62,82,116,21,226,158,143,58,162,37,54,38,178,7,116,111,120,142,202,90,185,115,34,219,149,143,75,213,209]:=by unfold nV2;rw[Sq,Sp];decide+kernel
theorem bI:nV3 bg1 (Fx %nn)=bl Hw:=by
 rw[show Fx %nn=Fx by decide+kernel];unfold nV3;rw[Sq,bK];decide+kernel
theorem bJ:AZ Hw base= .aff (91641478266143319200409962979497838403251612625275892787359574695720535655184:F) (114375281249681296941896533639832887972734301869878836694722213051604407696944:F):=by
 have e:=TollEc.ladder_all Hw (by decide) TollEc.bj (by rw[TollEc.bj_rep];exact TollEc.base_on);have hz:(TollEc.ladder Hw TollEc.bj 256).z*100040283677267846145428803282796888886744892266131146732693745416759573572012=1:=by decide+kernel
 have hx:(TollEc.ladder Hw TollEc.bj 256).x*((100040283677267846145428803282796888886744892266131146732693745416759573572012:F)*100040283677267846145428803282796888886744892266131146732693745416759573572012)=91641478266143319200409962979497838403251612625275892787359574695720535655184:=by decide+kernel
 have hy:(TollEc.ladder Hw TollEc.bj 256).y*((100040283677267846145428803282796888886744892266131146732693745416759573572012:F)*(100040283677267846145428803282796888886744892266131146732693745416759573572012*100040283677267846145428803282796888886744892266131146732693745416759573572012))=114375281249681296941896533639832887972734301869878836694722213051604407696944:=by decide+kernel
 rw[TollEc.bj_rep,TollEc.rep_of hz,hx,hy]at e;exact e.symm
theorem Oq:Df tF=true:=by decide+kernel
theorem Sn:rdC (wrT (tF.whole bg3 bg4)).1=some (tF,bg3,bg4):=by decide+kernel
theorem L2:Known tF bg1 bg3 bg4 where
 fit:=IV (by decide) (by decide) (CB _ _) Oq
 rgt:=Oq
 rd:=Sn
 made:=fun{w} hL hK hH hb1=>by
  rw[bH];exact Rt (d:=bg1) (h:=Fx) (k:=Hw) (r:=bg3) (t:=bg4) (i:=rZ) (by decide) (by decide) (by decide) w hL hK hH hb1 (by decide) bI (by decide) bJ (by decide+kernel) (by decide) (by decide+kernel) (by decide+kernel) (by decide) (by decide)
def tG:Crt:=⟨7,[110,98],[110,99],0,9,Ay,false,0,5⟩
theorem Si:BK tG=Fw:=by decide+kernel
theorem Sm:nK1 bg1 Fw=[6,88,181,109,92,248,140,66,103,213,171,117,113,169,27,91,6,253,186,144,253,200,220,168,179,154,234,228,68,22,30,207]:=by decide+kernel
theorem Sk:nV1 bg1 Fw=[8,209,106,224,241,42,4,186,212,39,131,93,228,193,7,93,216,141,30,145,43,103,76,111,110,2,59,158,1,5,182,32]:=by unfold nV1;rw[Sm];decide+kernel
theorem Sl:nK2 bg1 Fw=[18,78,128,9,207,113,39,73,134,156,227,248,132,108,73,237,176,111,230,135,113,198,153,230,99,8,247,221,85,150,116,149]:=by unfold nK2;rw[Sm,Sk];decide+kernel
theorem bG:nV2 bg1 Fw=[186,33,3,231,170,110,114,16,177,45,234,242,130,14,34,23,23,42,12,137,116,209,213,3,10,63,204,114,21,18,123,87]:=by unfold nV2;rw[Sl,Sk];decide+kernel
theorem bE:nV3 bg1 (Fw %nn)=bl Gs:=by
 rw[show Fw %nn=Fw by decide+kernel];unfold nV3;rw[Sl,bG];decide+kernel
theorem Sj:AZ Gs base= .aff (1114083266420058096696744489585543328269632961737434276984120145359717981390:F) (89483531536627122677102868345560288639071793184202654418347319555079259772043:F):=by
 have e:=TollEc.ladder_all Gs (by decide) TollEc.bj (by rw[TollEc.bj_rep];exact TollEc.base_on);have hz:(TollEc.ladder Gs TollEc.bj 256).z*3183072344837670355899810688896641918085878484844573659282006503901070967540=1:=by decide+kernel
 have hx:(TollEc.ladder Gs TollEc.bj 256).x*((3183072344837670355899810688896641918085878484844573659282006503901070967540:F)*3183072344837670355899810688896641918085878484844573659282006503901070967540)=1114083266420058096696744489585543328269632961737434276984120145359717981390:=by decide+kernel
 have hy:(TollEc.ladder Gs TollEc.bj 256).y*((3183072344837670355899810688896641918085878484844573659282006503901070967540:F)*(3183072344837670355899810688896641918085878484844573659282006503901070967540*3183072344837670355899810688896641918085878484844573659282006503901070967540))=89483531536627122677102868345560288639071793184202654418347319555079259772043:=by decide+kernel
 rw[TollEc.bj_rep,TollEc.rep_of hz,hx,hy]at e;exact e.symm
theorem Oo:Df tG=true:=by decide+kernel
theorem L0:rdC (wrT (tG.whole bg5 bg6)).1=some (tG,bg5,bg6):=by decide+kernel
theorem L1:Known tG bg1 bg5 bg6 where
 fit:=IV (by decide) (by decide) (CB _ _) Oo
 rgt:=Oo
 rd:=L0
 made:=fun{w} hL hK hH hb1=>by
  rw[Si];exact Rt (d:=bg1) (h:=Fw) (k:=Gs) (r:=bg5) (t:=bg6) (i:=Yq) (by decide) (by decide) (by decide) w hL hK hH hb1 (by decide) bE (by decide) Sj (by decide+kernel) (by decide) (by decide+kernel) (by decide+kernel) (by decide) (by decide)
theorem bF:Bh Ao (BK tG) bg5 bg6=0:=by
 rw[Si];exact YO Kv We (k:=Gs) (i:=Yq) (by decide) (by decide) (by decide) (by rw[Sj];decide+kernel) (by decide+kernel) (by decide+kernel)
theorem rD(b e:ByteArray)(a f d k:Int)(q:Bool)(p:Option Addr)(m n:Nat):prog.built 28 [(0,.int .i64 a),(1,.string b),(2,.string e),(3,.int .i64 f),(4,.int .i64 d),(5,.slice p m n),(6,.bool q),(8,.int .i64 k)]=some #[.int .i64 a,.string b,.string e,.int .i64 f,.int .i64 d,.slice p m n,.bool q,.int .i64 0,.int .i64 k]:=by kernel_rfl
theorem Qo{t0 t1 t2 t3 t4 t5 t6 t8:Operand}{a f d k:Int}{b e:ByteArray}{q:Bool}{sy:SV}{n size:Nat}{l:List Value}(ho:o.op= .build 28 #[(0,t0),(1,t1),(2,t2),(3,t3),(4,t4),(5,t5),(6,t6),(8,t8)])(hgd:AR ops o s)
 (h0:AC s t0= .v (.int .i64 a))(h1:AC s t1= .v (.string b))(h2:AC s t2= .v (.string e))(h3:AC s t3= .v (.int .i64 f))(h4:AC s t4= .v (.int .i64 d))(h5:AC s t5=sy)(h6:AC s t6= .v (.bool q))(h8:AC s t8= .v (.int .i64 k))(hr:Rdg w0 s.mem rd sy n size l):
 Ev prog ops w0 o s ⟨.agg [.v (.int .i64 a),.v (.string b),.v (.string e),.v (.int .i64 f),.v (.int .i64 d),sy,.v (.bool q),.v (.int .i64 0),.v (.int .i64 k)],[],[],[],rd⟩:=
 Ev.run _ _ hgd fun ρ S w hbw hR=>by
  have e0:=AH s ρ t0;rw[h0]at e0;have e1:=AH s ρ t1;rw[h1]at e1;have e2:=AH s ρ t2;rw[h2]at e2;have e3:=AH s ρ t3;rw[h3]at e3;have e4:=AH s ρ t4;rw[h4]at e4;have e5:=AH s ρ t5;rw[h5]at e5;have e6:=AH s ρ t6;rw[h6]at e6;have e8:=AH s ρ t8;rw[h8]at e8;obtain⟨_,ao,cap,hv,_⟩:=hr ρ S w hbw hR;rw[hv]at e5;simp only[execOp,ho,List.map_toArray,List.map_cons,List.map_nil,e0,e1,e2,e3,e4,e5,e6,e8,SV.c];rw[Sem.run_bind,run_build w 28 _ _ (rD b e a f d k q ao n cap)];simp[SV.c,SV.cs,hv]
theorem JC{x y:Operand}{a:Nat}(ho:o.op= .call {callee:= .builtin .max,args:= #[x,y],argTypes:=t})(hgd:AR ops o s)(hx:AC s x= .v (.int .i64 (a:Nat)))(hy:AC s y= .v (.int .i64 0)):
 Ev P ops w0 o s ⟨.v (.int .i64 (a:Nat)),[],[],[],[]⟩:=
 Ev.run _ _ hgd fun ρ S w hb hR=>by
  have e1:=AH s ρ x;rw[hx]at e1;have e2:=AH s ρ y;rw[hy]at e2;simp only[SV.c]at e1 e2;unfold execOp;simp only[ho,resolve,invoke,builtin,Sem.run_bind,Sem.run_pure,Result.andThen_ok,List.map_toArray,List.map_cons,List.map_nil,e1,e2,SV.c];by_cases h:a=0
  ·subst h;simp[Builtin.max_,Builtin.max2]
  ·simp[Builtin.max_,Builtin.max2]
   intro hh;omega
theorem Ud:CBy 8 #[.int .u8 0] w (.string (AI [110,97])):=by
 go_enter func8,ntmps8
 refine AO ?_;iterate 7 refine AA ?_
 refine AB (by exact AN (c:= .int .u8 0) rfl gg rfl rfl (fun w=>by kernel_rfl)) ?_;refine AB (by exact AN (c:= .int .u8 97) rfl gg rfl rfl (fun w=>by kernel_rfl)) ?_;refine AB (by exact BV rfl rfl gg rfl (e:=5) (l:=[97].map b8) rfl (by decide) (fun _=>by kernel_rfl)) ?_;refine AB (by exact ER (bs:=[97]) rfl gg rfl underlying26 underlying5 underlying9 (BI rfl)) ?_;refine AB (by exact AN (c:= .string (AI [110,97])) rfl gg rfl rfl (fun w=>by kernel_rfl)) ?_;iterate 2 refine AA ?_
 exact AG (AD (AM results8 (AE rfl)) fun _ _ hr=>⟨rfl,hr.1⟩)
theorem Uc:CBy 8 #[.int .u8 1] w (.string (AI [110,98])):=by
 go_enter func8,ntmps8
 refine AO ?_;iterate 7 refine AA ?_
 refine AB (by exact AN (c:= .int .u8 1) rfl gg rfl rfl (fun w=>by kernel_rfl)) ?_;refine AB (by exact AN (c:= .int .u8 98) rfl gg rfl rfl (fun w=>by kernel_rfl)) ?_;refine AB (by exact BV rfl rfl gg rfl (e:=5) (l:=[98].map b8) rfl (by decide) (fun _=>by kernel_rfl)) ?_;refine AB (by exact ER (bs:=[98]) rfl gg rfl underlying26 underlying5 underlying9 (BI rfl)) ?_;refine AB (by exact AN (c:= .string (AI [110,98])) rfl gg rfl rfl (fun w=>by kernel_rfl)) ?_;iterate 2 refine AA ?_
 exact AG (AD (AM results8 (AE rfl)) fun _ _ hr=>⟨rfl,hr.1⟩)
theorem Pg:CBy 8 #[.int .u8 2] w (.string (AI [110,99])):=by
 go_enter func8,ntmps8
 refine AO ?_;iterate 7 refine AA ?_
 refine AB (by exact AN (c:= .int .u8 2) rfl gg rfl rfl (fun w=>by kernel_rfl)) ?_;refine AB (by exact AN (c:= .int .u8 99) rfl gg rfl rfl (fun w=>by kernel_rfl)) ?_;refine AB (by exact BV rfl rfl gg rfl (e:=5) (l:=[99].map b8) rfl (by decide) (fun _=>by kernel_rfl)) ?_;refine AB (by exact ER (bs:=[99]) rfl gg rfl underlying26 underlying5 underlying9 (BI rfl)) ?_;refine AB (by exact AN (c:= .string (AI [110,99])) rfl gg rfl rfl (fun w=>by kernel_rfl)) ?_;iterate 2 refine AA ?_
 exact AG (AD (AM results8 (AE rfl)) fun _ _ hr=>⟨rfl,hr.1⟩)
theorem j5(hL:Laid w)(hK:Au w)(hH:BD w)(hb1:8<w.heap.size):CRy 6 #[.agg #[.int .u8 1,.int .u8 1,.int .u8 1,.int .i64 0,.int .i64 9,.bool true,.int .i64 0,.int .i64 1]] w ((wrT (tF.whole bg3 bg4)).1.length) ((wrT (tF.whole bg3 bg4)).1.map b8):=by
 go_enter func6,ntmps6
 refine AO ?_;iterate 9 refine AA ?_
 refine Q0 ?_;iterate 11 refine AA ?_
 refine Q0 ?_;iterate 11 refine AA ?_
 refine Qz ?_;iterate 2 refine AA ?_
 refine Qz ?_;iterate 2 refine AA ?_
 refine YE ?_;refine X3 ?_;iterate 2 refine AA ?_
 refine X6 ?_;refine YF ?_;iterate 5 refine AA ?_
 refine AB (by exact A5 (c:= .int .u64 1) rfl gg rfl (fun w=>by kernel_rfl)) ?_;refine pV ?_;refine AB (by exact A5 (c:= .int .i64 1) rfl gg rfl (fun w=>by kernel_rfl)) ?_;refine AB (by exact AN (c:= .int .i64 1) rfl gg rfl rfl (fun w=>by kernel_rfl)) ?_;refine Xz ?_;refine AA ?_;refine AB (by exact Az (vl:=[.v (.int .i64 7),.v (.string (AI [110,98])),.v (.string (AI [110,98])),.v (.int .i64 0),.v (.int .i64 9),.d 13,.v (.bool true),.v (.int .i64 0),.v (.int .i64 1)]) [13,7] rfl gg rfl rfl rfl sizeOf28 rfl (fun ρ S w' _ hR=>⟨CG _,by have hh:=CO (id:=13) hR (by simp) rfl;simp only[SV.cs,SV.c,List.all_cons,List.all_nil,hh.2];rfl⟩) rfl (by simp)) ?_;iterate 4 refine k_g ?_
 iterate 2 refine AA ?_
 iterate 3 refine k_g ?_
 iterate 2 refine AA ?_
 refine pM ?_;refine pN ?_;refine pL ?_;iterate 2 refine AA ?_
 refine pW ?_;iterate 4 refine AA ?_
 iterate 3 refine k_g ?_
 iterate 2 refine AA ?_
 refine AB (by exact DC [13] rfl rfl gg rfl (eo func12) (n:=(wrT (tF.whole bg3 bg4)).1.length) (size:=1) (l:=(wrT (tF.whole bg3 bg4)).1.map b8) (y:= .int .i64 0) (by simp) (fun ρ S w' hb hR=>Nn (c:=tF) (d:=bg1) (r:=bg3) (t:=bg4) w' (hL.bw hb) (hK.bw hb) (hH.bw hb) (Nat.lt_of_lt_of_le hb1 hb.size) (Dq (id:=13) hR (by simp) rfl) L2.fit Oq (fun w2 h2=>L2.made ((hL.bw hb).bw h2) ((hK.bw hb).bw h2) ((hH.bw hb).bw h2) (Nat.lt_of_lt_of_le (Nat.lt_of_lt_of_le hb1 hb.size) h2.size)))) ?_;iterate 10 refine AA ?_
 refine C9 ?_;iterate 8 refine AA ?_
 refine AG ?_;refine AD (AM results6 (AE rfl)) ?_;intro ρ w' hr;exact⟨_,rfl,BR hr rfl,hr.1⟩
theorem j4(hL:Laid w)(hK:Au w)(hH:BD w)(hb1:8<w.heap.size):CRy 6 #[.agg #[.int .u8 2,.int .u8 1,.int .u8 1,.int .i64 0,.int .i64 9,.bool false,.int .i64 0,.int .i64 5]] w ((wrT (tG.whole bg5 bg6)).1.length) ((wrT (tG.whole bg5 bg6)).1.map b8):=by
 go_enter func6,ntmps6
 refine AO ?_;iterate 9 refine AA ?_
 refine pT ?_;iterate 11 refine AA ?_
 refine Q0 ?_;iterate 11 refine AA ?_
 refine Qz ?_;iterate 2 refine AA ?_
 refine pO ?_;iterate 2 refine AA ?_
 refine YE ?_;refine X3 ?_;iterate 2 refine AA ?_
 refine X6 ?_;refine YF ?_;iterate 5 refine AA ?_
 refine AB (by exact A5 (c:= .int .u64 5) rfl gg rfl (fun w=>by kernel_rfl)) ?_;refine pY ?_;refine AB (by exact A5 (c:= .int .i64 5) rfl gg rfl (fun w=>by kernel_rfl)) ?_;refine pX ?_;refine Xz ?_;refine AA ?_;refine AB (by exact Az (vl:=[.v (.int .i64 7),.v (.string (AI [110,98])),.v (.string (AI [110,99])),.v (.int .i64 0),.v (.int .i64 9),.d 13,.v (.bool false),.v (.int .i64 0),.v (.int .i64 5)]) [13,7] rfl gg rfl rfl rfl sizeOf28 rfl (fun ρ S w' _ hR=>⟨CG _,by have hh:=CO (id:=13) hR (by simp) rfl;simp only[SV.cs,SV.c,List.all_cons,List.all_nil,hh.2];rfl⟩) rfl (by simp)) ?_;iterate 4 refine k_g ?_
 iterate 2 refine AA ?_
 iterate 5 refine k_g ?_
 iterate 2 refine AA ?_
 refine AB (by exact DC [13] rfl rfl gg rfl (eo func12) (n:=(wrT (tG.whole bg5 bg6)).1.length) (size:=1) (l:=(wrT (tG.whole bg5 bg6)).1.map b8) (y:= .int .i64 0) (by simp) (fun ρ S w' hb hR=>Nn (c:=tG) (d:=bg1) (r:=bg5) (t:=bg6) w' (hL.bw hb) (hK.bw hb) (hH.bw hb) (Nat.lt_of_lt_of_le hb1 hb.size) (Dq (id:=13) hR (by simp) rfl) L1.fit Oo (fun w2 h2=>L1.made ((hL.bw hb).bw h2) ((hK.bw hb).bw h2) ((hH.bw hb).bw h2) (Nat.lt_of_lt_of_le (Nat.lt_of_lt_of_le hb1 hb.size) h2.size)))) ?_;iterate 10 refine AA ?_
 refine C9 ?_;iterate 8 refine AA ?_
 refine AG ?_;refine AD (AM results6 (AE rfl)) ?_;intro ρ w' hr;exact⟨_,rfl,BR hr rfl,hr.1⟩
end Go.Proofs.YtefpajmkaaielaaGreatDoor
