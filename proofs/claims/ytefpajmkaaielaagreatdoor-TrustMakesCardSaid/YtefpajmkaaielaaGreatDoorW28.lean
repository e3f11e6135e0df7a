import Derived.Test.YtefpajmkaaielaaGreatDoorW26
open Go.Proofs.Tryz
set_option maxHeartbeats 4000000
set_option maxRecDepth 100000
namespace Go.Proofs.YtefpajmkaaielaaGreatDoor
open Go.RowKit Go.Vx
open TollMont
open Go.Toll (Gw)
open TollEc (F pp cb Jp Pt AZ add base nn neg TT Bi)
open TollSha (sha Ap An Bl BE)
open TollSimd (BQ Bd)
open TollBy (beV)
theorem jb:grp (AF (mB 99 98 [0] [0] true 0 11 Ao)) (64*4-(38+3)) (64*4-(38+6)) 0 128 4 9757795099827360982813673931258627748228033649796172441258847076717655045382 [33554432,0,0,0,0,0,0,2]=true:=by decide+kernel
theorem ja:grp (AF (mB 99 98 [0,0] [0,0] true 0 11 Ao)) (64*4-(38+4)) (64*4-(38+8)) 128 872 4 9757795099827360982813673931258627748228033649796172441258847076717655045382 [33554432,0,0,0,0,0,0,2]=true:=by decide+kernel
theorem jX: ∀u,AF (mB 99 98 [u] [u] true 0 11 Ao)=(AF (mB 99 98 [0] [0] true 0 11 Ao)).take 38++2::1::u::2::1::u::(AF (mB 99 98 [0] [0] true 0 11 Ao)).drop (38+6):=fun u=>by kernel_rfl
theorem jW: ∀u v,AF (mB 99 98 [u,v] [u,v] true 0 11 Ao)=(AF (mB 99 98 [0,0] [0,0] true 0 11 Ao)).take 38++2::2::u::v::2::2::u::v::(AF (mB 99 98 [0,0] [0,0] true 0 11 Ao)).drop (38+8):=fun u v=>by kernel_rfl
theorem jY: ∀m,m<1000→Bi TT 9757795099827360982813673931258627748228033649796172441258847076717655045382 (beV (sha (AF (mC 99 98 m m true 0 11 Ao).body)) 0) (beV (Bd (BQ [33554432,0,0,0,0,0,0,2]++sha (AF (mC 99 98 m m true 0 11 Ao).body))) 0)=true:=by
 intro m hm;by_cases h:m<128
 ·exact EQ jX (by decide+kernel) (by decide+kernel) (by decide+kernel) mK2.wl mK2.wn (by decide) jb m h
 ·have:=EP jW (by decide+kernel) (by decide+kernel) (by decide+kernel) mK2.wl mK2.wn (by decide) ja (m-128) (by omega)
  rw[show 128+(m-128)=m by omega]at this;exact this
theorem VI: ∀m,m<1000→mF 99 98 m m true 0 11 Ao:=fun m hm=>⟨by decide,by decide,by decide,by decide,by omega,by omega,by decide+kernel,by decide+kernel,Kv⟩
theorem jZ(m:Nat)(hm:m<1000): ∃r t,r<R∧t<R∧Known (mC 99 98 m m true 0 11 Ao) 904625697166532776746648320380374280103671755200316906558262375061821325314 r t∧Bh Ay (BK (mC 99 98 m m true 0 11 Ao)) r t=0:=Cx (VI m hm) (CB _ _) mK2 (jY m hm)
theorem jV:grp (AF (mB 100 99 [0] [0] true 1 7 Ay)) (64*4-(38+3)) (64*4-(38+6)) 0 128 4 51346076351716616821706775396316709881030632521567270581972978483573885477060 [33554432,0,0,0,0,0,0,3]=true:=by decide+kernel
theorem jU:grp (AF (mB 100 99 [0,0] [0,0] true 1 7 Ay)) (64*4-(38+4)) (64*4-(38+8)) 128 872 4 51346076351716616821706775396316709881030632521567270581972978483573885477060 [33554432,0,0,0,0,0,0,3]=true:=by decide+kernel
theorem jR: ∀u,AF (mB 100 99 [u] [u] true 1 7 Ay)=(AF (mB 100 99 [0] [0] true 1 7 Ay)).take 38++2::1::u::2::1::u::(AF (mB 100 99 [0] [0] true 1 7 Ay)).drop (38+6):=fun u=>by kernel_rfl
theorem jQ: ∀u v,AF (mB 100 99 [u,v] [u,v] true 1 7 Ay)=(AF (mB 100 99 [0,0] [0,0] true 1 7 Ay)).take 38++2::2::u::v::2::2::u::v::(AF (mB 100 99 [0,0] [0,0] true 1 7 Ay)).drop (38+8):=fun u v=>by kernel_rfl
theorem jS: ∀m,m<1000→Bi TT 51346076351716616821706775396316709881030632521567270581972978483573885477060 (beV (sha (AF (mC 100 99 m m true 1 7 Ay).body)) 0) (beV (Bd (BQ [33554432,0,0,0,0,0,0,3]++sha (AF (mC 100 99 m m true 1 7 Ay).body))) 0)=true:=by
 intro m hm;by_cases h:m<128
 ·exact EQ jR (by decide+kernel) (by decide+kernel) (by decide+kernel) mK3.wl mK3.wn (by decide) jV m h
 ·have:=EP jQ (by decide+kernel) (by decide+kernel) (by decide+kernel) mK3.wl mK3.wn (by decide) jU (m-128) (by omega)
  rw[show 128+(m-128)=m by omega]at this;exact this
theorem VH: ∀m,m<1000→mF 100 99 m m true 1 7 Ay:=fun m hm=>⟨by decide,by decide,by decide,by decide,by omega,by omega,by decide+kernel,by decide+kernel,NB⟩
theorem jT(m:Nat)(hm:m<1000): ∃r t,r<R∧t<R∧Known (mC 100 99 m m true 1 7 Ay) 904625697166532776746648320380374280103671755200316906558262375061821325315 r t∧Bh BB (BK (mC 100 99 m m true 1 7 Ay)) r t=0:=Cx (VH m hm) (CB _ _) mK3 (jS m hm)
theorem jP:grp (AF (mB 100 99 [0] [0] true 1 11 Ay)) (64*4-(38+3)) (64*4-(38+6)) 0 128 4 51346076351716616821706775396316709881030632521567270581972978483573885477060 [33554432,0,0,0,0,0,0,3]=true:=by decide+kernel
theorem jO:grp (AF (mB 100 99 [0,0] [0,0] true 1 11 Ay)) (64*4-(38+4)) (64*4-(38+8)) 128 872 4 51346076351716616821706775396316709881030632521567270581972978483573885477060 [33554432,0,0,0,0,0,0,3]=true:=by decide+kernel
theorem jL: ∀u,AF (mB 100 99 [u] [u] true 1 11 Ay)=(AF (mB 100 99 [0] [0] true 1 11 Ay)).take 38++2::1::u::2::1::u::(AF (mB 100 99 [0] [0] true 1 11 Ay)).drop (38+6):=fun u=>by kernel_rfl
theorem jK: ∀u v,AF (mB 100 99 [u,v] [u,v] true 1 11 Ay)=(AF (mB 100 99 [0,0] [0,0] true 1 11 Ay)).take 38++2::2::u::v::2::2::u::v::(AF (mB 100 99 [0,0] [0,0] true 1 11 Ay)).drop (38+8):=fun u v=>by kernel_rfl
theorem jM: ∀m,m<1000→Bi TT 51346076351716616821706775396316709881030632521567270581972978483573885477060 (beV (sha (AF (mC 100 99 m m true 1 11 Ay).body)) 0) (beV (Bd (BQ [33554432,0,0,0,0,0,0,3]++sha (AF (mC 100 99 m m true 1 11 Ay).body))) 0)=true:=by
 intro m hm;by_cases h:m<128
 ·exact EQ jL (by decide+kernel) (by decide+kernel) (by decide+kernel) mK3.wl mK3.wn (by decide) jP m h
 ·have:=EP jK (by decide+kernel) (by decide+kernel) (by decide+kernel) mK3.wl mK3.wn (by decide) jO (m-128) (by omega)
  rw[show 128+(m-128)=m by omega]at this;exact this
theorem VG: ∀m,m<1000→mF 100 99 m m true 1 11 Ay:=fun m hm=>⟨by decide,by decide,by decide,by decide,by omega,by omega,by decide+kernel,by decide+kernel,NB⟩
theorem jN(m:Nat)(hm:m<1000): ∃r t,r<R∧t<R∧Known (mC 100 99 m m true 1 11 Ay) 904625697166532776746648320380374280103671755200316906558262375061821325315 r t∧Bh BB (BK (mC 100 99 m m true 1 11 Ay)) r t=0:=Cx (VG m hm) (CB _ _) mK3 (jM m hm)
end Go.Proofs.YtefpajmkaaielaaGreatDoor
