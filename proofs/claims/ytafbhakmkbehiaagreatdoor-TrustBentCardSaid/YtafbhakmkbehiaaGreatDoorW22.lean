import Derived.Test.YtafbhakmkbehiaaGreatDoorW18
open Go.Proofs.Tryz
set_option maxHeartbeats 4000000
set_option maxRecDepth 100000
namespace Go.Proofs.YtafbhakmkbehiaaGreatDoor
open Go.RowKit Go.Vx
variable(w:World){ops:Array Oper}{t:Array TypeId}{rd:List Nat}{o:Oper}{P:Program}{s:VS}{w0:World}
open TollMont
open TollEc (F Pt Au base nn)
abbrev bg1:Nat:=904625697166532776746648320380374280103671755200316906558262375061821325313
abbrev bg2:Nat:=904625697166532776746648320380374280103671755200316906558262375061821325314
abbrev bg3:Nat:=1114083266420058096696744489585543328269632961737434276984120145359717981390
abbrev bg4:Nat:=86081644980612971697070882193903715326289650179523083670499400885591605164653
abbrev bg5:Nat:=91641478266143319200409962979497838403251612625275892787359574695720535655184
abbrev bg6:Nat:=34359785920783616614347124149629303463568371124378962494315311719422531698393
abbrev bg7:Nat:=31193729425313385881506108238254781750788181443340751436787757064357246045908
abbrev bg8:Nat:=33875709807389054030621152298660753821017416433502297707953376389667091883593
abbrev bg9:Nat:=13645548608241639975188624733488884857063842940996291934710241883532990226297
abbrev Dr:Nat:=95552895560270140344589384315698289418860489210491297586143532492709257881863
abbrev EL:Nat:=105828467820187483023250407010553259912314972136383017514431233067467589617832
abbrev EK:Nat:=57983459981127010552630293934344436647229404661832784942411333359312626659589
abbrev FP:Nat:=904625697166532776746648320380374280103671755200316906558262375061821325312
abbrev FJ:Nat:=47483817952803320613722420024628803634781391958847446266806460619663467958577
abbrev FI:Nat:=75768931370126280844252181196606291929395071023806678498571071330779434371960
abbrev FH:Nat:=42070192723413534926041954264831512253022650384609201501361631811508782028073
abbrev FG:Nat:=56886949867740122010253361878746430434109839984233776550138665916646959869401
abbrev FF:Nat:=46994010147077839536096238295903021041732150136569860618743525525297807157112
abbrev GR:Nat:=12315590673307037338543681674330899780035914756589656341493049235278547779027
abbrev GA:Nat:=51491345090207808780913421729848514572358939359484761396118750830505254875281
abbrev HJ:Nat:=115744160527941450656221705774925654865595209646581388713489885868577274607546
abbrev HD:Nat:=91105468776080713447366427506499164835164257448506515314712055801631781495301
abbrev F7:Nat:=78031832603277006369249295630671527854078136403097783988766551517861752108067
abbrev tK:Nat:=112596371597197100889482377337362517161391915316287673230561898602230266265605
abbrev tE:Nat:=68579117379619519081561212243653155051822368535173673057186209172486927593438
abbrev UL:Nat:=27736401506356009678151584350625309620559322027640608757190718808065438600109
abbrev UK:Nat:=24383916470466462557263339101769807051726531779280093914401902155669565827375
abbrev UC:Nat:=58124906515089311515528126181737800817740198088979743776751707102202465958326
abbrev Ti:Nat:=91205184884267670465302164274522387940326570890094221309063588548904845814743
abbrev tD:Nat:=22517499919988288966300921799367358296018035493321581481111113725442870998169
abbrev tC:Nat:=25572223968219580620828637967782036049705906138222215340605909485341783595944
abbrev wV:Nat:=104361784615272190872819628627706394520777724453779369192485332173223384944319
abbrev wU:Nat:=91817081492374393079017849818169213888974820355251278123165990121002774825916
abbrev rH:Nat:=37131138443545373274585903900838684485787008599997921362859582774533353690053
theorem gi:Au FP base=.aff (112596371597197100889482377337362517161391915316287673230561898602230266265605:F) (68579117379619519081561212243653155051822368535173673057186209172486927593438:F):=by
 have e:=TollEc.ladder_all FP (by decide) TollEc.bj (by rw[TollEc.bj_rep];exact TollEc.base_on);have c:(TollEc.ladder FP TollEc.bj 256).z*78535092148917830891011000457024454525989573918470696287611742314052017695396=1:=by decide+kernel
 have a:(TollEc.ladder FP TollEc.bj 256).x*((78535092148917830891011000457024454525989573918470696287611742314052017695396:F)*78535092148917830891011000457024454525989573918470696287611742314052017695396)=112596371597197100889482377337362517161391915316287673230561898602230266265605:=by decide+kernel
 have b:(TollEc.ladder FP TollEc.bj 256).y*((78535092148917830891011000457024454525989573918470696287611742314052017695396:F)*(78535092148917830891011000457024454525989573918470696287611742314052017695396*78535092148917830891011000457024454525989573918470696287611742314052017695396))=68579117379619519081561212243653155051822368535173673057186209172486927593438:=by decide+kernel
 rw[TollEc.bj_rep,TollEc.rep_of c,a,b]at e;exact e.symm
def Gi:List Nat:=kyL tK tE
theorem vR:xv (.aff (112596371597197100889482377337362517161391915316287673230561898602230266265605:F) (68579117379619519081561212243653155051822368535173673057186209172486927593438:F))=tK:=by decide+kernel
theorem vQ:yv (.aff (112596371597197100889482377337362517161391915316287673230561898602230266265605:F) (68579117379619519081561212243653155051822368535173673057186209172486927593438:F))=tE:=by decide+kernel
theorem vS:wl (.aff (112596371597197100889482377337362517161391915316287673230561898602230266265605:F) (68579117379619519081561212243653155051822368535173673057186209172486927593438:F))=Gi.map b8:=by
 rw[Gi,<-dW];have a:=vR;have b:=vQ;unfold wl;first|rw[a,b]|(simp only[xv,yv]at a b ⊢; rw[a,b])
theorem vT:(Pt.aff (112596371597197100889482377337362517161391915316287673230561898602230266265605:F) (68579117379619519081561212243653155051822368535173673057186209172486927593438:F)).on:=k7 gi
theorem Ou:Au bg1 base=.aff (27736401506356009678151584350625309620559322027640608757190718808065438600109:F) (24383916470466462557263339101769807051726531779280093914401902155669565827375:F):=by
 have e:=TollEc.ladder_all bg1 (by decide) TollEc.bj (by rw[TollEc.bj_rep];exact TollEc.base_on);have c:(TollEc.ladder bg1 TollEc.bj 256).z*44107168375111944912648364509830323097486460221033603987746361302382060614973=1:=by decide+kernel
 have a:(TollEc.ladder bg1 TollEc.bj 256).x*((44107168375111944912648364509830323097486460221033603987746361302382060614973:F)*44107168375111944912648364509830323097486460221033603987746361302382060614973)=27736401506356009678151584350625309620559322027640608757190718808065438600109:=by decide+kernel
 have b:(TollEc.ladder bg1 TollEc.bj 256).y*((44107168375111944912648364509830323097486460221033603987746361302382060614973:F)*(44107168375111944912648364509830323097486460221033603987746361302382060614973*44107168375111944912648364509830323097486460221033603987746361302382060614973))=24383916470466462557263339101769807051726531779280093914401902155669565827375:=by decide+kernel
 rw[TollEc.bj_rep,TollEc.rep_of c,a,b]at e;exact e.symm
def CN:List Nat:=kyL UL UK
theorem vL:xv (.aff (27736401506356009678151584350625309620559322027640608757190718808065438600109:F) (24383916470466462557263339101769807051726531779280093914401902155669565827375:F))=UL:=by decide+kernel
theorem vK:yv (.aff (27736401506356009678151584350625309620559322027640608757190718808065438600109:F) (24383916470466462557263339101769807051726531779280093914401902155669565827375:F))=UK:=by decide+kernel
theorem vM:wl (.aff (27736401506356009678151584350625309620559322027640608757190718808065438600109:F) (24383916470466462557263339101769807051726531779280093914401902155669565827375:F))=CN.map b8:=by
 rw[CN,<-dW];have a:=vL;have b:=vK;unfold wl;first|rw[a,b]|(simp only[xv,yv]at a b ⊢; rw[a,b])
theorem vN:(Pt.aff (27736401506356009678151584350625309620559322027640608757190718808065438600109:F) (24383916470466462557263339101769807051726531779280093914401902155669565827375:F)).on:=k7 Ou
theorem fU:kyB CN=true:=by decide+kernel
theorem vP:kX CN=UL:=by decide+kernel
theorem vO:kY CN=UK:=by decide+kernel
theorem gh:toP (kX CN) (kY CN)=Au bg1 base:=by
 rw[vP,vO,Ou];unfold toP;rw[dif_pos (by decide),x9 (by decide+kernel)];rfl
theorem M8:Au bg2 base=.aff (58124906515089311515528126181737800817740198088979743776751707102202465958326:F) (91205184884267670465302164274522387940326570890094221309063588548904845814743:F):=by
 have e:=TollEc.ladder_all bg2 (by decide) TollEc.bj (by rw[TollEc.bj_rep];exact TollEc.base_on);have c:(TollEc.ladder bg2 TollEc.bj 256).z*83590550526179825750682507386081446145171168068892406642439979247404183625987=1:=by decide+kernel
 have a:(TollEc.ladder bg2 TollEc.bj 256).x*((83590550526179825750682507386081446145171168068892406642439979247404183625987:F)*83590550526179825750682507386081446145171168068892406642439979247404183625987)=58124906515089311515528126181737800817740198088979743776751707102202465958326:=by decide+kernel
 have b:(TollEc.ladder bg2 TollEc.bj 256).y*((83590550526179825750682507386081446145171168068892406642439979247404183625987:F)*(83590550526179825750682507386081446145171168068892406642439979247404183625987*83590550526179825750682507386081446145171168068892406642439979247404183625987))=91205184884267670465302164274522387940326570890094221309063588548904845814743:=by decide+kernel
 rw[TollEc.bj_rep,TollEc.rep_of c,a,b]at e;exact e.symm
def Ch:List Nat:=kyL UC Ti
theorem vD:xv (.aff (58124906515089311515528126181737800817740198088979743776751707102202465958326:F) (91205184884267670465302164274522387940326570890094221309063588548904845814743:F))=UC:=by decide+kernel
theorem vC:yv (.aff (58124906515089311515528126181737800817740198088979743776751707102202465958326:F) (91205184884267670465302164274522387940326570890094221309063588548904845814743:F))=Ti:=by decide+kernel
theorem vE:wl (.aff (58124906515089311515528126181737800817740198088979743776751707102202465958326:F) (91205184884267670465302164274522387940326570890094221309063588548904845814743:F))=Ch.map b8:=by
 rw[Ch,<-dW];have a:=vD;have b:=vC;unfold wl;first|rw[a,b]|(simp only[xv,yv]at a b ⊢; rw[a,b])
theorem vF:(Pt.aff (58124906515089311515528126181737800817740198088979743776751707102202465958326:F) (91205184884267670465302164274522387940326570890094221309063588548904845814743:F)).on:=k7 M8
theorem vI:kyB Ch=true:=by decide+kernel
theorem vH:kX Ch=UC:=by decide+kernel
theorem vG:kY Ch=Ti:=by decide+kernel
theorem vJ:toP (kX Ch) (kY Ch)=Au bg2 base:=by
 rw[vH,vG,M8];unfold toP;rw[dif_pos (by decide),x9 (by decide+kernel)];rfl
theorem wR:prog.built 64 [(31,.int .u8 0),(0,.int .u8 2)]=some (B32 FP).cells:=by kernel_rfl
theorem wQ:prog.built 64 [(31,.int .u8 1),(0,.int .u8 2)]=some (B32 bg1).cells:=by kernel_rfl
theorem wP:prog.built 64 [(31,.int .u8 2),(0,.int .u8 2)]=some (B32 bg2).cells:=by kernel_rfl
theorem vB(g:Laid w):Calls prog 40 #[.int .u8 0] w λe c=> ∃v,e=.returned (.tuple #[B32 FP,v])/\BN w c v 65 1 5 (Gi.map b8)/\Bw w c:=by
 go_enter func40,ntmps40
 refine A4 ?_;iterate 2 refine aT ?_
 iterate 6 refine AA ?_
 refine AX (by exact A6 (cells:=(B32 FP).cells) rfl gg rfl wR) ?_;iterate 2 refine AA ?_
 iterate 3 refine aT ?_
 refine AA ?_;refine AX (by exact IU [] rfl rfl gg rfl (eo func56) (n:=65) (size:=1) (l:=Gi.map b8) (y:=.int .i64 0) (by rfl) (λh S c hb i=>by have a:=jm (a:=FP) (by decide) c (g.bw hb) (by decide) gi vT;rw[vS]at a;exact a)) ?_;iterate 13 refine AA ?_
 refine AG ?_;refine AD (Av results40 (Ac rfl rfl yY rfl yR rfl rfl) (AF rfl)) ?_;intro h c d;exact⟨_,rfl,B8 d rfl,d.1⟩
theorem vA(g:Laid w):Calls prog 40 #[.int .u8 1] w λe c=> ∃v,e=.returned (.tuple #[B32 bg1,v])/\BN w c v 65 1 5 (CN.map b8)/\Bw w c:=by
 go_enter func40,ntmps40
 refine A4 ?_;iterate 2 refine aT ?_
 iterate 6 refine AA ?_
 refine AX (by exact A6 (cells:=(B32 bg1).cells) rfl gg rfl wQ) ?_;iterate 2 refine AA ?_
 iterate 3 refine aT ?_
 refine AA ?_;refine AX (by exact IU [] rfl rfl gg rfl (eo func56) (n:=65) (size:=1) (l:=CN.map b8) (y:=.int .i64 0) (by rfl) (λh S c hb i=>by have a:=jm (a:=bg1) (by decide) c (g.bw hb) (by decide) Ou vN;rw[vM]at a;exact a)) ?_;iterate 13 refine AA ?_
 refine AG ?_;refine AD (Av results40 (Ac rfl rfl yY rfl yR rfl rfl) (AF rfl)) ?_;intro h c d;exact⟨_,rfl,B8 d rfl,d.1⟩
theorem u9(g:Laid w):Calls prog 40 #[.int .u8 2] w λe c=> ∃v,e=.returned (.tuple #[B32 bg2,v])/\BN w c v 65 1 5 (Ch.map b8)/\Bw w c:=by
 go_enter func40,ntmps40
 refine A4 ?_;iterate 2 refine aT ?_
 iterate 6 refine AA ?_
 refine AX (by exact A6 (cells:=(B32 bg2).cells) rfl gg rfl wP) ?_;iterate 2 refine AA ?_
 iterate 3 refine aT ?_
 refine AA ?_;refine AX (by exact IU [] rfl rfl gg rfl (eo func56) (n:=65) (size:=1) (l:=Ch.map b8) (y:=.int .i64 0) (by rfl) (λh S c hb i=>by have a:=jm (a:=bg2) (by decide) c (g.bw hb) (by decide) M8 vF;rw[vE]at a;exact a)) ?_;iterate 13 refine AA ?_
 refine AG ?_;refine AD (Av results40 (Ac rfl rfl yY rfl yR rfl rfl) (AF rfl)) ?_;intro h c d;exact⟨_,rfl,B8 d rfl,d.1⟩
def tA:Crt:=⟨7,[110,98],[110,97],0,9,Gi,false,0,5⟩
def tB:Crt:=⟨7,[110,98],[110,98],0,9,CN,true,0,2⟩
def tF:Crt:=⟨7,[110,98],[110,98],0,9,CN,true,0,3⟩
theorem uJ:Ed tF=FG:=by decide+kernel
theorem dc:nK1 bg1 FG=[90,207,179,78,18,4,46,211,78,162,106,230,215,187,207,134,142,129,157,235,127,246,221,164,155,241,46,4,236,40,107,133]:=by decide+kernel
theorem bV:nV1 bg1 FG=[9,101,34,43,43,93,237,254,88,124,113,215,105,145,206,136,174,173,153,246,35,61,43,173,164,196,98,202,103,2,99,28]:=by unfold nV1;rw[dc];decide+kernel
theorem cA:nK2 bg1 FG=[236,61,47,153,2,102,17,0,114,11,31,25,172,51,196,107,61,22,182,201,40,17,69,82,100,239,247,4,122,87,203,108]:=by unfold nK2;rw[dc,bV];decide+kernel
theorem uM:nV2 bg1 FG=[199,95,1,62,82,116,21,226,158,143,58,162,37,54,38,178,7,116,111,120,142,202,90,185,115,34,219,149,143,75,213,209]:=by unfold nV2;rw[cA,bV];decide+kernel
theorem uK:nV3 bg1 (FG %nn)=bl HD:=by
 rw[show FG %nn=FG by decide+kernel];unfold nV3;rw[cA,uM];decide+kernel
theorem uL:Au HD base=.aff (91641478266143319200409962979497838403251612625275892787359574695720535655184:F) (114375281249681296941896533639832887972734301869878836694722213051604407696944:F):=by
 have e:=TollEc.ladder_all HD (by decide) TollEc.bj (by rw[TollEc.bj_rep];exact TollEc.base_on);have c:(TollEc.ladder HD TollEc.bj 256).z*100040283677267846145428803282796888886744892266131146732693745416759573572012=1:=by decide+kernel
 have a:(TollEc.ladder HD TollEc.bj 256).x*((100040283677267846145428803282796888886744892266131146732693745416759573572012:F)*100040283677267846145428803282796888886744892266131146732693745416759573572012)=91641478266143319200409962979497838403251612625275892787359574695720535655184:=by decide+kernel
 have b:(TollEc.ladder HD TollEc.bj 256).y*((100040283677267846145428803282796888886744892266131146732693745416759573572012:F)*(100040283677267846145428803282796888886744892266131146732693745416759573572012*100040283677267846145428803282796888886744892266131146732693745416759573572012))=114375281249681296941896533639832887972734301869878836694722213051604407696944:=by decide+kernel
 rw[TollEc.bj_rep,TollEc.rep_of c,a,b]at e;exact e.symm
theorem M4:C2 tF=true:=by decide+kernel
theorem bU:rdC (wrT (tF.whole bg5 bg6)).1=some (tF,bg5,bg6):=by decide+kernel
theorem Kf:Known tF bg1 bg5 bg6 where
 fit:=KD (by decide) (by decide) (Y0 _ _) M4
 rgt:=M4
 rd:=bU
 made:=fun{w} hL hK hH hb1=>by
  rw[uJ];exact sU (d:=bg1) (h:=FG) (k:=HD) (r:=bg5) (t:=bg6) (i:=wU) (by decide) (by decide) (by decide) w hL hK hH hb1 (by decide) uK (by decide) uL (by decide+kernel) (by decide) (by decide+kernel) (by decide+kernel) (by decide) (by decide)
def tG:Crt:=⟨7,[110,98],[110,99],0,9,Ch,false,0,5⟩
theorem bP:Ed tG=FF:=by decide+kernel
theorem bT:nK1 bg1 FF=[6,88,181,109,92,248,140,66,103,213,171,117,113,169,27,91,6,253,186,144,253,200,220,168,179,154,234,228,68,22,30,207]:=by decide+kernel
theorem bR:nV1 bg1 FF=[8,209,106,224,241,42,4,186,212,39,131,93,228,193,7,93,216,141,30,145,43,103,76,111,110,2,59,158,1,5,182,32]:=by unfold nV1;rw[bT];decide+kernel
theorem bS:nK2 bg1 FF=[18,78,128,9,207,113,39,73,134,156,227,248,132,108,73,237,176,111,230,135,113,198,153,230,99,8,247,221,85,150,116,149]:=by unfold nK2;rw[bT,bR];decide+kernel
theorem uI:nV2 bg1 FF=[186,33,3,231,170,110,114,16,177,45,234,242,130,14,34,23,23,42,12,137,116,209,213,3,10,63,204,114,21,18,123,87]:=by unfold nV2;rw[bS,bR];decide+kernel
theorem uG:nV3 bg1 (FF %nn)=bl F7:=by
 rw[show FF %nn=FF by decide+kernel];unfold nV3;rw[bS,uI];decide+kernel
theorem bQ:Au F7 base=.aff (1114083266420058096696744489585543328269632961737434276984120145359717981390:F) (89483531536627122677102868345560288639071793184202654418347319555079259772043:F):=by
 have e:=TollEc.ladder_all F7 (by decide) TollEc.bj (by rw[TollEc.bj_rep];exact TollEc.base_on);have c:(TollEc.ladder F7 TollEc.bj 256).z*3183072344837670355899810688896641918085878484844573659282006503901070967540=1:=by decide+kernel
 have a:(TollEc.ladder F7 TollEc.bj 256).x*((3183072344837670355899810688896641918085878484844573659282006503901070967540:F)*3183072344837670355899810688896641918085878484844573659282006503901070967540)=1114083266420058096696744489585543328269632961737434276984120145359717981390:=by decide+kernel
 have b:(TollEc.ladder F7 TollEc.bj 256).y*((3183072344837670355899810688896641918085878484844573659282006503901070967540:F)*(3183072344837670355899810688896641918085878484844573659282006503901070967540*3183072344837670355899810688896641918085878484844573659282006503901070967540))=89483531536627122677102868345560288639071793184202654418347319555079259772043:=by decide+kernel
 rw[TollEc.bj_rep,TollEc.rep_of c,a,b]at e;exact e.symm
theorem M3:C2 tG=true:=by decide+kernel
theorem Kd:rdC (wrT (tG.whole bg3 bg4)).1=some (tG,bg3,bg4):=by decide+kernel
theorem Ke:Known tG bg1 bg3 bg4 where
 fit:=KD (by decide) (by decide) (Y0 _ _) M3
 rgt:=M3
 rd:=Kd
 made:=fun{w} hL hK hH hb1=>by
  rw[bP];exact sU (d:=bg1) (h:=FF) (k:=F7) (r:=bg3) (t:=bg4) (i:=rH) (by decide) (by decide) (by decide) w hL hK hH hb1 (by decide) uG (by decide) bQ (by decide+kernel) (by decide) (by decide+kernel) (by decide+kernel) (by decide) (by decide)
theorem uH:EX CN (Ed tG) bg3 bg4=0:=by
 rw[bP];exact pg fU gh (k:=F7) (i:=rH) (by decide) (by decide) (by decide) (by rw[bQ];decide+kernel) (by decide+kernel) (by decide+kernel)
theorem wT(b e:ByteArray)(a f d k:Int)(q:Bool)(p:Option Addr)(m n:Nat):prog.built 34 [(0,.int .i64 a),(1,.string b),(2,.string e),(3,.int .i64 f),(4,.int .i64 d),(5,.slice p m n),(6,.bool q),(8,.int .i64 k)]=some #[.int .i64 a,.string b,.string e,.int .i64 f,.int .i64 d,.slice p m n,.bool q,.int .i64 0,.int .i64 k]:=by kernel_rfl
theorem wA{u x y z A B C D:Operand}{a f d k:Int}{b e:ByteArray}{q:Bool}{r:SV}{n h:Nat}{l:List Value}(Y:o.op=.build 34 #[(0,u),(1,x),(2,y),(3,z),(4,A),(5,B),(6,C),(8,D)])(p:AQ ops o s)
 (N:AE s u=.v (.int .i64 a))(O:AE s x=.v (.string b))(Q:AE s y=.v (.string e))(R:AE s z=.v (.int .i64 f))(T:AE s A=.v (.int .i64 d))(U:AE s B=r)(V:AE s C=.v (.bool q))(W:AE s D=.v (.int .i64 k))(Z:Rdg w0 s.mem rd r n h l):
 Ev prog ops w0 o s ⟨.agg [.v (.int .i64 a),.v (.string b),.v (.string e),.v (.int .i64 f),.v (.int .i64 d),r,.v (.bool q),.v (.int .i64 0),.v (.int .i64 k)],[],[],[],rd⟩:=
 Ev.run _ _ p λg S w m X=>by
  have E:=AI s g u;rw[N]at E;have F:=AI s g x;rw[O]at F;have G:=AI s g y;rw[Q]at G;have H:=AI s g z;rw[R]at H;have I:=AI s g A;rw[T]at I;have j:=AI s g B;rw[U]at j;have J:=AI s g C;rw[V]at J;have K:=AI s g D;rw[W]at K;obtain⟨_,M,i,L,_⟩:=Z g S w m X;rw[L]at j;simp only[execOp,Y,List.map_toArray,List.map_cons,List.map_nil,E,F,G,H,I,j,J,K,SV.c];rw[Sem.run_bind,run_build w 34 _ _ (wT b e a f d k q M n i)];simp[SV.c,SV.cs,L]
theorem JS{x y:Operand}{a:Nat}(g:o.op=.call {callee:=.builtin .max,args:=#[x,y],argTypes:=t})(e:AQ ops o s)(i:AE s x=.v (.int .i64 (a:Nat)))(j:AE s y=.v (.int .i64 0)):
 Ev P ops w0 o s ⟨.v (.int .i64 (a:Nat)),[],[],[],[]⟩:=
 Ev.run _ _ e λf S w hb k=>by
  have b:=AI s f x;rw[i]at b;have d:=AI s f y;rw[j]at d;simp only[SV.c]at b d;unfold execOp;simp only[g,resolve,invoke,builtin,Sem.run_bind,Sem.run_pure,Result.andThen_ok,List.map_toArray,List.map_cons,List.map_nil,b,d,SV.c];by_cases h:a=0
  .subst h;simp[Builtin.max_,Builtin.max2]
  .simp[Builtin.max_,Builtin.max2]
   intro l;omega
theorem ui:CBy 41 #[.int .u8 0] w (.string (AB [110,97])):=by
 go_enter func41,ntmps41
 refine A4 ?_;iterate 7 refine AA ?_
 refine AX (by exact AK (c:=.int .u8 0) rfl gg rfl rfl (λw=>by kernel_rfl)) ?_;refine AX (by exact AK (c:=.int .u8 97) rfl gg rfl rfl (λw=>by kernel_rfl)) ?_;refine AX (by exact BL rfl rfl gg rfl (e:=5) (l:=[97].map b8) rfl (by decide) (λ_=>by kernel_rfl)) ?_;refine AX (by exact Cc (bs:=[97]) rfl gg rfl x7 yL yF (BI rfl)) ?_;refine AX (by exact AK (c:=.string (AB [110,97])) rfl gg rfl rfl (λw=>by kernel_rfl)) ?_;iterate 2 refine AA ?_
 exact AG (AD (AH results41 (AF rfl)) λ_ _ a=>⟨rfl,a.1⟩)
theorem uh:CBy 41 #[.int .u8 1] w (.string (AB [110,98])):=by
 go_enter func41,ntmps41
 refine A4 ?_;iterate 7 refine AA ?_
 refine AX (by exact AK (c:=.int .u8 1) rfl gg rfl rfl (λw=>by kernel_rfl)) ?_;refine AX (by exact AK (c:=.int .u8 98) rfl gg rfl rfl (λw=>by kernel_rfl)) ?_;refine AX (by exact BL rfl rfl gg rfl (e:=5) (l:=[98].map b8) rfl (by decide) (λ_=>by kernel_rfl)) ?_;refine AX (by exact Cc (bs:=[98]) rfl gg rfl x7 yL yF (BI rfl)) ?_;refine AX (by exact AK (c:=.string (AB [110,98])) rfl gg rfl rfl (λw=>by kernel_rfl)) ?_;iterate 2 refine AA ?_
 exact AG (AD (AH results41 (AF rfl)) λ_ _ a=>⟨rfl,a.1⟩)
theorem fE:CBy 41 #[.int .u8 2] w (.string (AB [110,99])):=by
 go_enter func41,ntmps41
 refine A4 ?_;iterate 7 refine AA ?_
 refine AX (by exact AK (c:=.int .u8 2) rfl gg rfl rfl (λw=>by kernel_rfl)) ?_;refine AX (by exact AK (c:=.int .u8 99) rfl gg rfl rfl (λw=>by kernel_rfl)) ?_;refine AX (by exact BL rfl rfl gg rfl (e:=5) (l:=[99].map b8) rfl (by decide) (λ_=>by kernel_rfl)) ?_;refine AX (by exact Cc (bs:=[99]) rfl gg rfl x7 yL yF (BI rfl)) ?_;refine AX (by exact AK (c:=.string (AB [110,99])) rfl gg rfl rfl (λw=>by kernel_rfl)) ?_;iterate 2 refine AA ?_
 exact AG (AD (AH results41 (AF rfl)) λ_ _ a=>⟨rfl,a.1⟩)
theorem uw(hL:Laid w)(k:B6 w)(j:CQ w)(e:7<w.heap.size):CRy 16 #[.agg #[.int .u8 1,.int .u8 1,.int .u8 1,.int .i64 0,.int .i64 9,.bool true,.int .i64 0,.int .i64 1]] w ((wrT (tF.whole bg5 bg6)).1.length) ((wrT (tF.whole bg5 bg6)).1.map b8):=by
 go_enter func16,ntmps16
 refine A4 ?_;iterate 9 refine AA ?_
 refine IH ?_;iterate 11 refine AA ?_
 refine IH ?_;iterate 11 refine AA ?_
 refine KF ?_;iterate 2 refine AA ?_
 refine KF ?_;iterate 2 refine AA ?_
 refine KO ?_;refine IG ?_;iterate 2 refine AA ?_
 refine m5 ?_;refine qB ?_;iterate 5 refine AA ?_
 refine AX (by exact B1 (c:=.int .u64 1) rfl gg rfl (λw=>by kernel_rfl)) ?_;refine Pe ?_;refine AX (by exact B1 (c:=.int .i64 1) rfl gg rfl (λw=>by kernel_rfl)) ?_;refine AX (by exact AK (c:=.int .i64 1) rfl gg rfl rfl (λw=>by kernel_rfl)) ?_;refine J3 ?_;refine AA ?_;refine AX (by exact Bh (vl:=[.v (.int .i64 7),.v (.string (AB [110,98])),.v (.string (AB [110,98])),.v (.int .i64 0),.v (.int .i64 9),.d 13,.v (.bool true),.v (.int .i64 0),.v (.int .i64 1)]) [13,7] rfl gg rfl rfl rfl yN rfl (λq S i _ h=>⟨DC _,by have u:=Cf (id:=13) h (by simp) rfl;simp only[SV.cs,SV.c,List.all_cons,List.all_nil,u.2];rfl⟩) rfl (by simp)) ?_;iterate 4 refine aT ?_
 iterate 2 refine AA ?_
 iterate 3 refine aT ?_
 iterate 2 refine AA ?_
 refine PY ?_;refine PZ ?_;refine PC ?_;iterate 2 refine AA ?_
 refine my ?_;iterate 4 refine AA ?_
 iterate 3 refine aT ?_
 iterate 2 refine AA ?_
 refine AX (by exact IU [13] rfl rfl gg rfl (eo func30) (n:=(wrT (tF.whole bg5 bg6)).1.length) (size:=1) (l:=(wrT (tF.whole bg5 bg6)).1.map b8) (y:=.int .i64 0) (by simp) (λq S i hb h=>qG (c:=tF) (d:=bg1) (r:=bg5) (t:=bg6) i (hL.bw hb) (k.bw hb) (j.bw hb) (yK e hb.size) (EH (id:=13) h (by simp) rfl) Kf.fit M4 (λz g=>Kf.made ((hL.bw hb).bw g) ((k.bw hb).bw g) ((j.bw hb).bw g) (yK (yK e hb.size) g.size)))) ?_;iterate 10 refine AA ?_
 refine IM ?_;iterate 8 refine AA ?_
 refine AG ?_;refine AD (AH results16 (AF rfl)) ?_;intro q i m;exact⟨_,rfl,B8 m rfl,m.1⟩
theorem uu(hL:Laid w)(k:B6 w)(j:CQ w)(e:7<w.heap.size):CRy 16 #[.agg #[.int .u8 2,.int .u8 1,.int .u8 1,.int .i64 0,.int .i64 9,.bool false,.int .i64 0,.int .i64 5]] w ((wrT (tG.whole bg3 bg4)).1.length) ((wrT (tG.whole bg3 bg4)).1.map b8):=by
 go_enter func16,ntmps16
 refine A4 ?_;iterate 9 refine AA ?_
 refine KG ?_;iterate 11 refine AA ?_
 refine IH ?_;iterate 11 refine AA ?_
 refine KF ?_;iterate 2 refine AA ?_
 refine Lg ?_;iterate 2 refine AA ?_
 refine KO ?_;refine IG ?_;iterate 2 refine AA ?_
 refine m5 ?_;refine qB ?_;iterate 5 refine AA ?_
 refine AX (by exact B1 (c:=.int .u64 5) rfl gg rfl (λw=>by kernel_rfl)) ?_;refine m4 ?_;refine AX (by exact B1 (c:=.int .i64 5) rfl gg rfl (λw=>by kernel_rfl)) ?_;refine mz ?_;refine J3 ?_;refine AA ?_;refine AX (by exact Bh (vl:=[.v (.int .i64 7),.v (.string (AB [110,98])),.v (.string (AB [110,99])),.v (.int .i64 0),.v (.int .i64 9),.d 13,.v (.bool false),.v (.int .i64 0),.v (.int .i64 5)]) [13,7] rfl gg rfl rfl rfl yN rfl (λq S i _ h=>⟨DC _,by have u:=Cf (id:=13) h (by simp) rfl;simp only[SV.cs,SV.c,List.all_cons,List.all_nil,u.2];rfl⟩) rfl (by simp)) ?_;iterate 4 refine aT ?_
 iterate 2 refine AA ?_
 iterate 5 refine aT ?_
 iterate 2 refine AA ?_
 refine AX (by exact IU [13] rfl rfl gg rfl (eo func30) (n:=(wrT (tG.whole bg3 bg4)).1.length) (size:=1) (l:=(wrT (tG.whole bg3 bg4)).1.map b8) (y:=.int .i64 0) (by simp) (λq S i hb h=>qG (c:=tG) (d:=bg1) (r:=bg3) (t:=bg4) i (hL.bw hb) (k.bw hb) (j.bw hb) (yK e hb.size) (EH (id:=13) h (by simp) rfl) Ke.fit M3 (λz g=>Ke.made ((hL.bw hb).bw g) ((k.bw hb).bw g) ((j.bw hb).bw g) (yK (yK e hb.size) g.size)))) ?_;iterate 10 refine AA ?_
 refine IM ?_;iterate 8 refine AA ?_
 refine AG ?_;refine AD (AH results16 (AF rfl)) ?_;intro q i m;exact⟨_,rfl,B8 m rfl,m.1⟩
end Go.Proofs.YtafbhakmkbehiaaGreatDoor
