import Derived.Test.YtefpajmkaaielaaGreatDoorW26
open Go.Proofs.Tryz
set_option maxHeartbeats 4000000
set_option maxRecDepth 100000
namespace Go.Proofs.YtefpajmkaaielaaGreatDoor
open Go.RowKit Go.Vx
open TollMont
open Go.Toll (Gw)
open TollEc (F pp cb Jp Pt AZ add base nn neg TT Bi)
open TollSha (sha Ap An Bl BE)
open TollSimd (BQ Bd)
open TollBy (beV)
theorem jt:grp (AF (mB 98 97 [0] [0] false 0 5 Bm)) (64*4-(38+3)) (64*4-(38+6)) 0 128 4 6591544678880922473152825580845563798349195887689057009784510052511805957003 [33554432,0,0,0,0,0,0,1]=true:=by decide+kernel
theorem js:grp (AF (mB 98 97 [0,0] [0,0] false 0 5 Bm)) (64*4-(38+4)) (64*4-(38+8)) 128 872 4 6591544678880922473152825580845563798349195887689057009784510052511805957003 [33554432,0,0,0,0,0,0,1]=true:=by decide+kernel
theorem jp: ∀u,AF (mB 98 97 [u] [u] false 0 5 Bm)=(AF (mB 98 97 [0] [0] false 0 5 Bm)).take 38++2::1::u::2::1::u::(AF (mB 98 97 [0] [0] false 0 5 Bm)).drop (38+6):=fun u=>by kernel_rfl
theorem jo: ∀u v,AF (mB 98 97 [u,v] [u,v] false 0 5 Bm)=(AF (mB 98 97 [0,0] [0,0] false 0 5 Bm)).take 38++2::2::u::v::2::2::u::v::(AF (mB 98 97 [0,0] [0,0] false 0 5 Bm)).drop (38+8):=fun u v=>by kernel_rfl
theorem jq: ∀m,m<1000→Bi TT 6591544678880922473152825580845563798349195887689057009784510052511805957003 (beV (sha (AF (mC 98 97 m m false 0 5 Bm).body)) 0) (beV (Bd (BQ [33554432,0,0,0,0,0,0,1]++sha (AF (mC 98 97 m m false 0 5 Bm).body))) 0)=true:=by
 intro m hm;by_cases h:m<128
 ·exact EQ jp (by decide+kernel) (by decide+kernel) (by decide+kernel) mK1.wl mK1.wn (by decide) jt m h
 ·have:=EP jo (by decide+kernel) (by decide+kernel) (by decide+kernel) mK1.wl mK1.wn (by decide) js (m-128) (by omega)
  rw[show 128+(m-128)=m by omega]at this;exact this
theorem VL: ∀m,m<1000→mF 98 97 m m false 0 5 Bm:=fun m hm=>⟨by decide,by decide,by decide,by decide,by omega,by omega,by decide+kernel,by decide+kernel,Wg⟩
theorem jr(m:Nat)(hm:m<1000): ∃r t,r<R∧t<R∧Known (mC 98 97 m m false 0 5 Bm) 904625697166532776746648320380374280103671755200316906558262375061821325313 r t∧Bh Ao (BK (mC 98 97 m m false 0 5 Bm)) r t=0:=Cx (VL m hm) (CB _ _) mK1 (jq m hm)
theorem jn:grp (AF (mB 98 97 [0] [0] false 0 9 Bm)) (64*4-(38+3)) (64*4-(38+6)) 0 128 4 6591544678880922473152825580845563798349195887689057009784510052511805957003 [33554432,0,0,0,0,0,0,1]=true:=by decide+kernel
theorem jm:grp (AF (mB 98 97 [0,0] [0,0] false 0 9 Bm)) (64*4-(38+4)) (64*4-(38+8)) 128 872 4 6591544678880922473152825580845563798349195887689057009784510052511805957003 [33554432,0,0,0,0,0,0,1]=true:=by decide+kernel
theorem jj: ∀u,AF (mB 98 97 [u] [u] false 0 9 Bm)=(AF (mB 98 97 [0] [0] false 0 9 Bm)).take 38++2::1::u::2::1::u::(AF (mB 98 97 [0] [0] false 0 9 Bm)).drop (38+6):=fun u=>by kernel_rfl
theorem ji: ∀u v,AF (mB 98 97 [u,v] [u,v] false 0 9 Bm)=(AF (mB 98 97 [0,0] [0,0] false 0 9 Bm)).take 38++2::2::u::v::2::2::u::v::(AF (mB 98 97 [0,0] [0,0] false 0 9 Bm)).drop (38+8):=fun u v=>by kernel_rfl
theorem jk: ∀m,m<1000→Bi TT 6591544678880922473152825580845563798349195887689057009784510052511805957003 (beV (sha (AF (mC 98 97 m m false 0 9 Bm).body)) 0) (beV (Bd (BQ [33554432,0,0,0,0,0,0,1]++sha (AF (mC 98 97 m m false 0 9 Bm).body))) 0)=true:=by
 intro m hm;by_cases h:m<128
 ·exact EQ jj (by decide+kernel) (by decide+kernel) (by decide+kernel) mK1.wl mK1.wn (by decide) jn m h
 ·have:=EP ji (by decide+kernel) (by decide+kernel) (by decide+kernel) mK1.wl mK1.wn (by decide) jm (m-128) (by omega)
  rw[show 128+(m-128)=m by omega]at this;exact this
theorem VK: ∀m,m<1000→mF 98 97 m m false 0 9 Bm:=fun m hm=>⟨by decide,by decide,by decide,by decide,by omega,by omega,by decide+kernel,by decide+kernel,Wg⟩
theorem jl(m:Nat)(hm:m<1000): ∃r t,r<R∧t<R∧Known (mC 98 97 m m false 0 9 Bm) 904625697166532776746648320380374280103671755200316906558262375061821325313 r t∧Bh Ao (BK (mC 98 97 m m false 0 9 Bm)) r t=0:=Cx (VK m hm) (CB _ _) mK1 (jk m hm)
theorem jh:grp (AF (mB 99 98 [0] [0] true 0 7 Ao)) (64*4-(38+3)) (64*4-(38+6)) 0 128 4 9757795099827360982813673931258627748228033649796172441258847076717655045382 [33554432,0,0,0,0,0,0,2]=true:=by decide+kernel
theorem jg:grp (AF (mB 99 98 [0,0] [0,0] true 0 7 Ao)) (64*4-(38+4)) (64*4-(38+8)) 128 872 4 9757795099827360982813673931258627748228033649796172441258847076717655045382 [33554432,0,0,0,0,0,0,2]=true:=by decide+kernel
theorem jd: ∀u,AF (mB 99 98 [u] [u] true 0 7 Ao)=(AF (mB 99 98 [0] [0] true 0 7 Ao)).take 38++2::1::u::2::1::u::(AF (mB 99 98 [0] [0] true 0 7 Ao)).drop (38+6):=fun u=>by kernel_rfl
theorem jc: ∀u v,AF (mB 99 98 [u,v] [u,v] true 0 7 Ao)=(AF (mB 99 98 [0,0] [0,0] true 0 7 Ao)).take 38++2::2::u::v::2::2::u::v::(AF (mB 99 98 [0,0] [0,0] true 0 7 Ao)).drop (38+8):=fun u v=>by kernel_rfl
theorem je: ∀m,m<1000→Bi TT 9757795099827360982813673931258627748228033649796172441258847076717655045382 (beV (sha (AF (mC 99 98 m m true 0 7 Ao).body)) 0) (beV (Bd (BQ [33554432,0,0,0,0,0,0,2]++sha (AF (mC 99 98 m m true 0 7 Ao).body))) 0)=true:=by
 intro m hm;by_cases h:m<128
 ·exact EQ jd (by decide+kernel) (by decide+kernel) (by decide+kernel) mK2.wl mK2.wn (by decide) jh m h
 ·have:=EP jc (by decide+kernel) (by decide+kernel) (by decide+kernel) mK2.wl mK2.wn (by decide) jg (m-128) (by omega)
  rw[show 128+(m-128)=m by omega]at this;exact this
theorem VJ: ∀m,m<1000→mF 99 98 m m true 0 7 Ao:=fun m hm=>⟨by decide,by decide,by decide,by decide,by omega,by omega,by decide+kernel,by decide+kernel,Kv⟩
theorem jf(m:Nat)(hm:m<1000): ∃r t,r<R∧t<R∧Known (mC 99 98 m m true 0 7 Ao) 904625697166532776746648320380374280103671755200316906558262375061821325314 r t∧Bh Ay (BK (mC 99 98 m m true 0 7 Ao)) r t=0:=Cx (VJ m hm) (CB _ _) mK2 (je m hm)
end Go.Proofs.YtefpajmkaaielaaGreatDoor
