import Derived.Test.YtafbhakmkbehiaaGreatDoorY29
open Go.Proofs.Tryz
set_option maxHeartbeats 4000000
set_option maxRecDepth 100000
namespace Go.Proofs.YtafbhakmkbehiaaGreatDoor
open Go.RowKit Go.Vx
open TollMont
open Go.Toll (Gw)
open TollEc (F pp cb Jp Pt Au add base nn neg)
open TollSha (sha CH)
theorem jB{c:Crt}(w:World)(h0:0≤c.us)(hm:c.us≤15)(k8: ∀x∈c.ky,x<256)(i8: ∀x∈c.is,x<256)(s8: ∀x∈c.su,x<256)(il:c.is.length≤1048576)(sl:c.su.length≤1048576):Calls prog 38 #[.agg #[.int .i64 c.se,.string (AB c.is),.string (AB c.su),.int .i64 c.fr,.int .i64 c.to,.string (AB c.ky),.bool c.ca,.int .i64 c.pa,.int .i64 c.us]] w fun e w'=>e= .returned (.bool (C2 c))∧Bw w w':=by
 obtain⟨a,h_a⟩: ∃p,wiB c.se 0 4611686018427387903=p:=⟨_,rfl⟩
 obtain⟨b,h_b⟩: ∃p,decide (c.se>0)=p:=⟨_,rfl⟩
 obtain⟨d,h_d⟩: ∃p,Db c.is=p:=⟨_,rfl⟩
 obtain⟨e,h_e⟩: ∃p,Db c.su=p:=⟨_,rfl⟩
 obtain⟨f,h_f⟩: ∃p,wiB c.fr 0 4611686018427387903=p:=⟨_,rfl⟩
 obtain⟨g,h_g⟩: ∃p,wiB c.to 0 4611686018427387903=p:=⟨_,rfl⟩
 obtain⟨k,h_k⟩: ∃p,kyB c.ky=p:=⟨_,rfl⟩
 obtain⟨m,h_m⟩: ∃p,decide (c.pa≥0)=p:=⟨_,rfl⟩
 obtain⟨n,h_n⟩: ∃p,decide (c.pa≤5)=p:=⟨_,rfl⟩
 obtain⟨z,h_z⟩: ∃p,decide (c.pa=0)=p:=⟨_,rfl⟩
 obtain⟨v,h_v⟩: ∃p,usB c.us=p:=⟨_,rfl⟩
 obtain⟨y,h_y⟩: ∃p,c.ca=p:=⟨_,rfl⟩
 have hv:=(df c.us).symm.trans h_v;rw[gP h0 hm,h_a,h_b,h_d,h_e,h_f,h_g,h_k,h_m,h_n,h_z,h_v,h_y]
 go_enter func38,ntmps38
 refine Fy ?_
 refine D2 ?_;refine q_6 ?_;refine AA (by exact AK rfl gg rfl rfl (fun w=>jR h0 hm _ _ w)) ?_;refine AA (by exact AK rfl gg rfl rfl (fun w=>gY (by omega) _ _ w)) ?_;refine AA (by exact Ag rfl gg rfl rfl hv) ?_;iterate 3 refine AL ?_
 have hh:(a=false)∨(a=true∧b=false)∨(a=true∧b=true∧d=false)∨(a=true∧b=true∧d=true∧e=false)∨(a=true∧b=true∧d=true∧e=true∧f=false)∨(a=true∧b=true∧d=true∧e=true∧f=true∧g=false)∨(a=true∧b=true∧d=true∧e=true∧f=true∧g=true∧k=false)∨(a=true∧b=true∧d=true∧e=true∧f=true∧g=true∧k=true∧m=false)∨(a=true∧b=true∧d=true∧e=true∧f=true∧g=true∧k=true∧m=true∧n=false)∨(a=true∧b=true∧d=true∧e=true∧f=true∧g=true∧k=true∧m=true∧n=true∧y=false∧z=false)∨(a=true∧b=true∧d=true∧e=true∧f=true∧g=true∧k=true∧m=true∧n=true∧y=true)∨(a=true∧b=true∧d=true∧e=true∧f=true∧g=true∧k=true∧m=true∧n=true∧y=false∧z=true):=by
  cases a<;>cases b<;>cases d<;>cases e<;>cases f<;>cases g<;>cases k<;>cases m<;>cases n<;>cases y<;>cases z<;>simp
 rcases hh with rfl|⟨rfl,rfl⟩|⟨rfl,rfl,rfl⟩|⟨rfl,rfl,rfl,rfl⟩|⟨rfl,rfl,rfl,rfl,rfl⟩|⟨rfl,rfl,rfl,rfl,rfl,rfl⟩|⟨rfl,rfl,rfl,rfl,rfl,rfl,rfl⟩|⟨rfl,rfl,rfl,rfl,rfl,rfl,rfl,rfl⟩|⟨rfl,rfl,rfl,rfl,rfl,rfl,rfl,rfl,rfl⟩|⟨rfl,rfl,rfl,rfl,rfl,rfl,rfl,rfl,rfl,rfl,rfl⟩|⟨rfl,rfl,rfl,rfl,rfl,rfl,rfl,rfl,rfl,rfl⟩|⟨rfl,rfl,rfl,rfl,rfl,rfl,rfl,rfl,rfl,rfl,rfl⟩
 ·skip
  refine FJ ?_;refine q_6 ?_;refine E7 ?_;refine q_1 ?_;refine FH ?_;refine q_4 ?_;refine FG ?_;refine q_4 ?_;refine FF ?_;refine q_1 ?_;refine FE ?_;refine q_1 ?_;refine FD ?_;refine q_4 ?_;refine FC ?_;refine q_1 ?_;refine FB ?_;refine q_1 ?_;refine FA ?_;refine q_7 ?_;refine FI ?_;refine q_1 ?_;refine E6 ?_;refine q_1 ?_;refine E9 ?_;refine q_1 ?_;refine E8 ?_;refine q_7 ?_;refine EJ ?_
  refine AG ?_;refine AD (AH results38 (AF rfl)) ?_;intro ρ w' hr;first|exact⟨rfl,hr.1⟩|(cases v<;>exact⟨rfl,hr.1⟩)
 ·skip
  refine FJ ?_;refine q_6 ?_;refine E7 ?_;refine q_1 ?_;refine FH ?_;refine q_4 ?_;refine FG ?_;refine q_4 ?_;refine FF ?_;refine q_1 ?_;refine FE ?_;refine q_1 ?_;refine FD ?_;refine q_4 ?_;refine FC ?_;refine q_1 ?_;refine FB ?_;refine q_1 ?_;refine FA ?_;refine q_7 ?_;refine FI ?_;refine q_1 ?_;refine E6 ?_;refine q_1 ?_;refine E9 ?_;refine q_1 ?_;refine E8 ?_;refine q_7 ?_;refine EJ ?_
  refine AG ?_;refine AD (AH results38 (AF rfl)) ?_;intro ρ w' hr;first|exact⟨rfl,hr.1⟩|(cases v<;>exact⟨rfl,hr.1⟩)
 ·skip
  refine FJ ?_;refine q_6 ?_;refine E7 ?_;refine q_1 ?_;refine FH ?_;refine q_4 ?_;refine FG ?_;refine q_4 ?_;refine FF ?_;refine q_1 ?_;refine FE ?_;refine q_1 ?_;refine FD ?_;refine q_4 ?_;refine FC ?_;refine q_1 ?_;refine FB ?_;refine q_1 ?_;refine FA ?_;refine q_7 ?_;refine FI ?_;refine q_1 ?_;refine E6 ?_;refine q_1 ?_;refine E9 ?_;refine q_1 ?_;refine E8 ?_;refine q_7 ?_;refine EJ ?_
  refine AG ?_;refine AD (AH results38 (AF rfl)) ?_;intro ρ w' hr;first|exact⟨rfl,hr.1⟩|(cases v<;>exact⟨rfl,hr.1⟩)
 ·skip
  refine FJ ?_;refine q_6 ?_;refine E7 ?_;refine q_1 ?_;refine FH ?_;refine q_4 ?_;refine FG ?_;refine q_4 ?_;refine FF ?_;refine q_1 ?_;refine FE ?_;refine q_1 ?_;refine FD ?_;refine q_4 ?_;refine FC ?_;refine q_1 ?_;refine FB ?_;refine q_1 ?_;refine FA ?_;refine q_7 ?_;refine FI ?_;refine q_1 ?_;refine E6 ?_;refine q_1 ?_;refine E9 ?_;refine q_1 ?_;refine E8 ?_;refine q_7 ?_;refine EJ ?_
  refine AG ?_;refine AD (AH results38 (AF rfl)) ?_;intro ρ w' hr;first|exact⟨rfl,hr.1⟩|(cases v<;>exact⟨rfl,hr.1⟩)
 ·skip
  refine FJ ?_;refine q_6 ?_;refine E7 ?_;refine q_1 ?_;refine FH ?_;refine q_4 ?_;refine FG ?_;refine q_4 ?_;refine FF ?_;refine q_1 ?_;refine FE ?_;refine q_1 ?_;refine FD ?_;refine q_4 ?_;refine FC ?_;refine q_1 ?_;refine FB ?_;refine q_1 ?_;refine FA ?_;refine q_7 ?_;refine FI ?_;refine q_1 ?_;refine E6 ?_;refine q_1 ?_;refine E9 ?_;refine q_1 ?_;refine E8 ?_;refine q_7 ?_;refine EJ ?_
  refine AG ?_;refine AD (AH results38 (AF rfl)) ?_;intro ρ w' hr;first|exact⟨rfl,hr.1⟩|(cases v<;>exact⟨rfl,hr.1⟩)
 ·skip
  refine FJ ?_;refine q_6 ?_;refine E7 ?_;refine q_1 ?_;refine FH ?_;refine q_4 ?_;refine FG ?_;refine q_4 ?_;refine FF ?_;refine q_1 ?_;refine FE ?_;refine q_1 ?_;refine FD ?_;refine q_4 ?_;refine FC ?_;refine q_1 ?_;refine FB ?_;refine q_1 ?_;refine FA ?_;refine q_7 ?_;refine FI ?_;refine q_1 ?_;refine E6 ?_;refine q_1 ?_;refine E9 ?_;refine q_1 ?_;refine E8 ?_;refine q_7 ?_;refine EJ ?_
  refine AG ?_;refine AD (AH results38 (AF rfl)) ?_;intro ρ w' hr;first|exact⟨rfl,hr.1⟩|(cases v<;>exact⟨rfl,hr.1⟩)
 ·skip
  refine FJ ?_;refine q_6 ?_;refine E7 ?_;refine q_1 ?_;refine FH ?_;refine q_4 ?_;refine FG ?_;refine q_4 ?_;refine FF ?_;refine q_1 ?_;refine FE ?_;refine q_1 ?_;refine FD ?_;refine q_4 ?_;refine FC ?_;refine q_1 ?_;refine FB ?_;refine q_1 ?_;refine FA ?_;refine q_7 ?_;refine FI ?_;refine q_1 ?_;refine E6 ?_;refine q_1 ?_;refine E9 ?_;refine q_1 ?_;refine E8 ?_;refine q_7 ?_;refine EJ ?_
  refine AG ?_;refine AD (AH results38 (AF rfl)) ?_;intro ρ w' hr;first|exact⟨rfl,hr.1⟩|(cases v<;>exact⟨rfl,hr.1⟩)
 ·skip
  refine FJ ?_;refine q_6 ?_;refine E7 ?_;refine q_1 ?_;refine FH ?_;refine q_4 ?_;refine FG ?_;refine q_4 ?_;refine FF ?_;refine q_1 ?_;refine FE ?_;refine q_1 ?_;refine FD ?_;refine q_4 ?_;refine FC ?_;refine q_1 ?_;refine FB ?_;refine q_1 ?_;refine FA ?_;refine q_7 ?_;refine FI ?_;refine q_1 ?_;refine E6 ?_;refine q_1 ?_;refine E9 ?_;refine q_1 ?_;refine E8 ?_;refine q_7 ?_;refine EJ ?_
  refine AG ?_;refine AD (AH results38 (AF rfl)) ?_;intro ρ w' hr;first|exact⟨rfl,hr.1⟩|(cases v<;>exact⟨rfl,hr.1⟩)
 ·skip
  refine FJ ?_;refine q_6 ?_;refine E7 ?_;refine q_1 ?_;refine FH ?_;refine q_4 ?_;refine FG ?_;refine q_4 ?_;refine FF ?_;refine q_1 ?_;refine FE ?_;refine q_1 ?_;refine FD ?_;refine q_4 ?_;refine FC ?_;refine q_1 ?_;refine FB ?_;refine q_1 ?_;refine FA ?_;refine q_7 ?_;refine FI ?_;refine q_1 ?_;refine E6 ?_;refine q_1 ?_;refine E9 ?_;refine q_1 ?_;refine E8 ?_;refine q_7 ?_;refine EJ ?_
  refine AG ?_;refine AD (AH results38 (AF rfl)) ?_;intro ρ w' hr;first|exact⟨rfl,hr.1⟩|(cases v<;>exact⟨rfl,hr.1⟩)
 ·skip
  refine FJ ?_;refine q_6 ?_;refine E7 ?_;refine q_1 ?_;refine FH ?_;refine q_4 ?_;refine FG ?_;refine q_4 ?_;refine FF ?_;refine q_1 ?_;refine FE ?_;refine q_1 ?_;refine FD ?_;refine q_4 ?_;refine FC ?_;refine q_1 ?_;refine FB ?_;refine q_1 ?_;refine FA ?_;refine q_7 ?_;refine FI ?_;refine q_1 ?_;refine E6 ?_;refine q_1 ?_;refine E9 ?_;refine q_1 ?_;refine E8 ?_;refine q_7 ?_;refine EJ ?_
  refine AG ?_;refine AD (AH results38 (AF rfl)) ?_;intro ρ w' hr;first|exact⟨rfl,hr.1⟩|(cases v<;>exact⟨rfl,hr.1⟩)
 ·skip
  refine FJ ?_;refine q_6 ?_;refine E7 ?_;refine q_1 ?_;refine FH ?_;refine q_4 ?_;refine FG ?_;refine q_4 ?_;refine FF ?_;refine q_1 ?_;refine FE ?_;refine q_1 ?_;refine FD ?_;refine q_4 ?_;refine FC ?_;refine q_1 ?_;refine FB ?_;refine q_1 ?_;refine FA ?_;refine q_7 ?_;refine FI ?_;refine q_1 ?_;refine E6 ?_;refine q_1 ?_;refine E9 ?_;refine q_1 ?_;refine E8 ?_;refine q_7 ?_;refine EJ ?_
  refine AG ?_;refine AD (AH results38 (AF rfl)) ?_;intro ρ w' hr;first|exact⟨rfl,hr.1⟩|(cases v<;>exact⟨rfl,hr.1⟩)
 ·skip
  refine FJ ?_;refine q_6 ?_;refine E7 ?_;refine q_1 ?_;refine FH ?_;refine q_4 ?_;refine FG ?_;refine q_4 ?_;refine FF ?_;refine q_1 ?_;refine FE ?_;refine q_1 ?_;refine FD ?_;refine q_4 ?_;refine FC ?_;refine q_1 ?_;refine FB ?_;refine q_1 ?_;refine FA ?_;refine q_7 ?_;refine FI ?_;refine q_1 ?_;refine E6 ?_;refine q_1 ?_;refine E9 ?_;refine q_1 ?_;refine E8 ?_;refine q_7 ?_;refine EJ ?_
  refine AG ?_;refine AD (AH results38 (AF rfl)) ?_;intro ρ w' hr;first|exact⟨rfl,hr.1⟩|(cases v<;>exact⟨rfl,hr.1⟩)
end Go.Proofs.YtafbhakmkbehiaaGreatDoor
