import Derived.Test.YtafbhakmkbehiaaGreatDoorW22
open Go.Proofs.Tryz
set_option maxHeartbeats 4000000
set_option maxRecDepth 100000
namespace Go.Proofs.YtafbhakmkbehiaaGreatDoor
open Go.RowKit Go.Vx
open TollMont
open TollEc (F Au base nn)
def tH:Crt:=⟨7,[110,98],[110,97],0,50,Gi,false,0,5⟩
theorem Zf:Ed tH=FJ:=by decide+kernel
theorem bD:nK1 bg1 FJ=[74,0,23,35,96,193,29,168,86,196,101,174,20,209,222,237,84,189,44,6,49,162,153,39,135,223,152,238,36,57,155,251]:=by decide+kernel
theorem Zp:nV1 bg1 FJ=[43,210,224,240,142,89,74,106,114,134,81,175,230,79,190,71,180,231,84,135,114,128,7,209,179,44,114,154,205,132,58,92]:=by unfold nV1;rw[bD];decide+kernel
theorem aG:nK2 bg1 FJ=[171,191,239,251,13,47,208,176,221,240,233,71,183,55,163,159,105,163,52,83,24,110,125,88,172,148,221,118,54,6,21,183]:=by unfold nK2;rw[bD,Zp];decide+kernel
theorem uF:nV2 bg1 FJ=[186,75,22,98,245,191,97,6,27,133,125,17,174,213,208,9,176,247,126,102,85,57,120,96,201,13,180,84,174,95,131,57]:=by unfold nV2;rw[aG,Zp];decide+kernel
theorem uD:nV3 bg1 (FJ %nn)=bl GR:=by
 rw[show FJ %nn=FJ by decide+kernel];unfold nV3;rw[aG,uF];decide+kernel
theorem Zh:Au GR base=.aff (13645548608241639975188624733488884857063842940996291934710241883532990226297:F) (55372813580467612956397004901320295568539563146141890589742392135643596254410:F):=by
 have e:=TollEc.ladder_all GR (by decide) TollEc.bj (by rw[TollEc.bj_rep];exact TollEc.base_on);have c:(TollEc.ladder GR TollEc.bj 256).z*88488828130507894310011499936167388013174467029243235351006552506585484183325=1:=by decide+kernel
 have a:(TollEc.ladder GR TollEc.bj 256).x*((88488828130507894310011499936167388013174467029243235351006552506585484183325:F)*88488828130507894310011499936167388013174467029243235351006552506585484183325)=13645548608241639975188624733488884857063842940996291934710241883532990226297:=by decide+kernel
 have b:(TollEc.ladder GR TollEc.bj 256).y*((88488828130507894310011499936167388013174467029243235351006552506585484183325:F)*(88488828130507894310011499936167388013174467029243235351006552506585484183325*88488828130507894310011499936167388013174467029243235351006552506585484183325))=55372813580467612956397004901320295568539563146141890589742392135643596254410:=by decide+kernel
 rw[TollEc.bj_rep,TollEc.rep_of c,a,b]at e;exact e.symm
theorem My:C2 tH=true:=by decide+kernel
theorem Kc:rdC (wrT (tH.whole bg9 Dr)).1=some (tH,bg9,Dr):=by decide+kernel
theorem Mz:Known tH bg1 bg9 Dr where
 fit:=KD (by decide) (by decide) (Y0 _ _) My
 rgt:=My
 rd:=Kc
 made:=fun{w} hL hK hH hb1=>by
  rw[Zf];exact sU (d:=bg1) (h:=FJ) (k:=GR) (r:=bg9) (t:=Dr) (i:=tD) (by decide) (by decide) (by decide) w hL hK hH hb1 (by decide) uD (by decide) Zh (by decide+kernel) (by decide) (by decide+kernel) (by decide+kernel) (by decide) (by decide)
theorem uE:EX CN (Ed tH) bg9 Dr=0:=by
 rw[Zf];exact pg fU gh (k:=GR) (i:=tD) (by decide) (by decide) (by decide) (by rw[Zh];decide+kernel) (by decide+kernel) (by decide+kernel)
def tI:Crt:=⟨7,[110,99],[110,98],0,50,CN,true,0,3⟩
theorem XZ:Ed tI=FI:=by decide+kernel
theorem Ze:nK1 bg2 FI=[134,115,81,21,73,220,75,162,241,116,119,221,34,156,218,116,21,55,98,106,221,6,90,206,186,116,113,28,32,186,170,168]:=by decide+kernel
theorem YG:nV1 bg2 FI=[169,202,51,26,162,109,251,115,38,241,208,177,192,251,241,213,115,37,252,192,241,97,99,243,112,195,2,84,25,104,222,213]:=by unfold nV1;rw[Ze];decide+kernel
theorem ZF:nK2 bg2 FI=[77,71,206,148,106,233,212,207,126,118,197,224,144,169,5,41,131,0,176,12,99,46,114,226,144,140,22,24,150,248,244,129]:=by unfold nK2;rw[Ze,YG];decide+kernel
theorem uC:nV2 bg2 FI=[32,184,55,62,34,3,85,114,89,249,150,178,231,99,1,60,211,230,166,241,114,131,243,14,146,111,81,183,59,6,61,251]:=by unfold nV2;rw[ZF,YG];decide+kernel
theorem uA:nV3 bg2 (FI %nn)=bl GA:=by
 rw[show FI %nn=FI by decide+kernel];unfold nV3;rw[ZF,uC];decide+kernel
theorem X4:Au GA base=.aff (31193729425313385881506108238254781750788181443340751436787757064357246045908:F) (91540155970409935156843129662706407105692293727908334362670718776569999806423:F):=by
 have e:=TollEc.ladder_all GA (by decide) TollEc.bj (by rw[TollEc.bj_rep];exact TollEc.base_on);have c:(TollEc.ladder GA TollEc.bj 256).z*107897110464376167443092078057266304772915438289743893369487468472299954339803=1:=by decide+kernel
 have a:(TollEc.ladder GA TollEc.bj 256).x*((107897110464376167443092078057266304772915438289743893369487468472299954339803:F)*107897110464376167443092078057266304772915438289743893369487468472299954339803)=31193729425313385881506108238254781750788181443340751436787757064357246045908:=by decide+kernel
 have b:(TollEc.ladder GA TollEc.bj 256).y*((107897110464376167443092078057266304772915438289743893369487468472299954339803:F)*(107897110464376167443092078057266304772915438289743893369487468472299954339803*107897110464376167443092078057266304772915438289743893369487468472299954339803))=91540155970409935156843129662706407105692293727908334362670718776569999806423:=by decide+kernel
 rw[TollEc.bj_rep,TollEc.rep_of c,a,b]at e;exact e.symm
theorem Mv:C2 tI=true:=by decide+kernel
theorem JP:rdC (wrT (tI.whole bg7 bg8)).1=some (tI,bg7,bg8):=by decide+kernel
theorem Mw:Known tI bg2 bg7 bg8 where
 fit:=KD (by decide) (by decide) (Y0 _ _) Mv
 rgt:=Mv
 rd:=JP
 made:=fun{w} hL hK hH hb1=>by
  rw[XZ];exact sU (d:=bg2) (h:=FI) (k:=GA) (r:=bg7) (t:=bg8) (i:=tC) (by decide) (by decide) (by decide) w hL hK hH hb1 (by decide) uA (by decide) X4 (by decide+kernel) (by decide) (by decide+kernel) (by decide+kernel) (by decide) (by decide)
theorem uB:EX Ch (Ed tI) bg7 bg8=0:=by
 rw[XZ];exact pg vI vJ (k:=GA) (i:=tC) (by decide) (by decide) (by decide) (by rw[X4];decide+kernel) (by decide+kernel) (by decide+kernel)
def tJ:Crt:=⟨7,[110,99],[110,99],0,50,Ch,true,1,2⟩
theorem tx:Ed tJ=FH:=by decide+kernel
theorem XY:nK1 bg2 FH=[44,14,143,165,63,245,210,225,108,192,32,112,64,50,36,142,186,183,231,229,43,3,146,125,49,86,154,3,172,55,238,102]:=by decide+kernel
theorem XW:nV1 bg2 FH=[28,229,17,74,59,243,29,236,30,237,43,106,223,226,217,152,66,253,19,171,41,181,40,102,94,190,59,61,41,240,9,148]:=by unfold nV1;rw[XY];decide+kernel
theorem XX:nK2 bg2 FH=[25,229,71,47,20,173,208,69,227,108,139,196,25,221,103,221,181,239,69,114,121,7,244,79,225,38,127,174,194,179,247,133]:=by unfold nK2;rw[XY,XW];decide+kernel
theorem t9:nV2 bg2 FH=[161,235,73,111,3,135,88,94,81,109,84,235,215,209,100,100,85,253,189,192,95,167,197,139,94,135,75,61,92,160,16,196]:=by unfold nV2;rw[XX,XW];decide+kernel
theorem tz:nV3 bg2 (FH %nn)=bl HJ:=by
 rw[show FH %nn=FH by decide+kernel];unfold nV3;rw[XX,t9];decide+kernel
theorem t7:Au HJ base=.aff (105828467820187483023250407010553259912314972136383017514431233067467589617832:F) (16930228904885566354712264871233522671239846110423458608557208613436994464038:F):=by
 have e:=TollEc.ladder_all HJ (by decide) TollEc.bj (by rw[TollEc.bj_rep];exact TollEc.base_on);have c:(TollEc.ladder HJ TollEc.bj 256).z*54444795897729968062187766069220143084747974015462880388119582734568726681381=1:=by decide+kernel
 have a:(TollEc.ladder HJ TollEc.bj 256).x*((54444795897729968062187766069220143084747974015462880388119582734568726681381:F)*54444795897729968062187766069220143084747974015462880388119582734568726681381)=105828467820187483023250407010553259912314972136383017514431233067467589617832:=by decide+kernel
 have b:(TollEc.ladder HJ TollEc.bj 256).y*((54444795897729968062187766069220143084747974015462880388119582734568726681381:F)*(54444795897729968062187766069220143084747974015462880388119582734568726681381*54444795897729968062187766069220143084747974015462880388119582734568726681381))=16930228904885566354712264871233522671239846110423458608557208613436994464038:=by decide+kernel
 rw[TollEc.bj_rep,TollEc.rep_of c,a,b]at e;exact e.symm
theorem Mt:C2 tJ=true:=by decide+kernel
theorem Kb:rdC (wrT (tJ.whole EL EK)).1=some (tJ,EL,EK):=by decide+kernel
theorem Mu:Known tJ bg2 EL EK where
 fit:=KD (by decide) (by decide) (Y0 _ _) Mt
 rgt:=Mt
 rd:=Kb
 made:=fun{w} hL hK hH hb1=>by
  rw[tx];exact sU (d:=bg2) (h:=FH) (k:=HJ) (r:=EL) (t:=EK) (i:=wV) (by decide) (by decide) (by decide) w hL hK hH hb1 (by decide) tz (by decide) t7 (by decide+kernel) (by decide) (by decide+kernel) (by decide+kernel) (by decide) (by decide)
end Go.Proofs.YtafbhakmkbehiaaGreatDoor
