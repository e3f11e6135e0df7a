import Derived.Test.YtafbhakmkbehiaaGreatDoorZ27
open Go.Proofs.Tryz
set_option maxHeartbeats 4000000
set_option maxRecDepth 100000
namespace Go.Proofs.YtafbhakmkbehiaaGreatDoor
open Go.RowKit Go.Vx
variable{ops:Array Oper}{xs:Array Operand}{ats:Array TypeId}{f:FuncId}{vs:List SV}{P:Program}{ty:TypeId}
open TollMont
open Go.Toll (Gw)
open TollEc (F pp cb Jp Pt Au add base nn neg)
open TollSha (sha CH)
def kyL(x y:Nat):List Nat:=4::(bl x++bl y)
theorem Y0(x y:Nat): ∀z∈kyL x y,z<256:=fun z hz=>by
 rcases List.mem_cons.1 hz with rfl|hz
 ·decide
 ·exact(List.mem_append.1 hz).elim (EZ x z) (EZ y z)
theorem dW(x y:Nat):wb x y=(kyL x y).map b8:=by
 unfold wb kyL;rw[PU,PU,List.map_cons,List.map_append];rfl
theorem k7{k:Nat}{p:Pt}(h:Au k base=p):p.on:=h▸TollEc.smul_on TollEc.base_on k
structure Known(c:Crt)(d r t:Nat):Prop where
 fit:c.Fit
 rgt:C2 c=true
 rd:rdC (wrT (c.whole r t)).1=some (c,r,t)
 made: ∀{w:World},Laid w→B6 w→CQ w→7<w.heap.size→Calls prog 58 #[B32 d,B32 (Ed c)] w fun e w'=>e= .returned (.tuple #[PT r t,.int .i64 0])∧Bw w w'
theorem oa{w0:World}{o:Oper}{s:VS}{id n size:Nat}{l:List Value}{y:Value}(rd:List Nat)(_hd:o.dst=some id)(ho:o.op= .call {callee:= .value (.func f),args:=xs,argTypes:=ats})(hgd:AQ ops o s)
 (hx:xs.toList.map (AE s)=vs)(he: ∀args w,(callFunc f args).run P w= .ok (.enter f args) w)(hl:l.length=n*size)
 (hc: ∀ρ S w,Bw w0 w→RelOn w0.heap.size ρ S w (restr rd s.mem)→Calls P f (SV.cs ρ vs).toArray w fun e w'=> ∃v,e= .returned (.tuple #[y,v])∧BN w w' v n size ty l∧Bw w w'):Ev P ops w0 o s ⟨.tup [.v y,.d id],[(id,.row n size ty (.exact l))],[],[id],rd⟩:=
 ⟨by simp[Eff.ok],.inr ⟨hgd,fun ρ S w hb hR=> .inr (.inr ⟨f,(SV.cs ρ vs).toArray,by
  obtain⟨dst,op,type,pos,after,guard⟩:=o;simp only at ho;subst ho;rw[execOp_call_go,G7,hx,←A8]
  simpa using he (SV.cs ρ vs).toArray w,(hc ρ S w hb hR).mono fun e w' ⟨v,h1,⟨g,h2⟩,h3⟩=>⟨_,h1,_,_,by
   have:=H6 (base:=w0.heap.size) (t:=s.mem) (ρ:=ρ) (S:=S) (val:= .tup [.v y,.d id]) (rd:=rd) (id:=id) hb.size h3 hl h2;simpa[SV.c,SV.cs] using this⟩⟩)⟩⟩
end Go.Proofs.YtafbhakmkbehiaaGreatDoor
