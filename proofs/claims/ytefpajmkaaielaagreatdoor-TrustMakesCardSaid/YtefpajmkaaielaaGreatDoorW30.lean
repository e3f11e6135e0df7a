import Derived.Test.YtefpajmkaaielaaGreatDoorW26
open Go.Proofs.Tryz
set_option maxHeartbeats 4000000
set_option maxRecDepth 100000
namespace Go.Proofs.YtefpajmkaaielaaGreatDoor
open Go.RowKit Go.Vx
open TollMont
open Go.Toll (Gw)
open TollEc (F pp cb Jp Pt AZ add base nn neg TT Bi)
open TollSha (sha Ap An Bl BE)
open TollSimd (BQ Bd)
open TollBy (beV)
theorem it:grp (AF (mB 102 101 [0] [0] true 3 11 BA)) (64*4-(38+3)) (64*4-(38+6)) 0 128 4 20859251098157752118482267957895595569935993839816154395969593266132477885300 [33554432,0,0,0,0,0,0,5]=true:=by decide+kernel
theorem ir:grp (AF (mB 102 101 [0,0] [0,0] true 3 11 BA)) (64*4-(38+4)) (64*4-(38+8)) 128 872 4 20859251098157752118482267957895595569935993839816154395969593266132477885300 [33554432,0,0,0,0,0,0,5]=true:=by decide+kernel
theorem io: ∀u,AF (mB 102 101 [u] [u] true 3 11 BA)=(AF (mB 102 101 [0] [0] true 3 11 BA)).take 38++2::1::u::2::1::u::(AF (mB 102 101 [0] [0] true 3 11 BA)).drop (38+6):=fun u=>by kernel_rfl
theorem im: ∀u v,AF (mB 102 101 [u,v] [u,v] true 3 11 BA)=(AF (mB 102 101 [0,0] [0,0] true 3 11 BA)).take 38++2::2::u::v::2::2::u::v::(AF (mB 102 101 [0,0] [0,0] true 3 11 BA)).drop (38+8):=fun u v=>by kernel_rfl
theorem ip: ∀m,m<1000→Bi TT 20859251098157752118482267957895595569935993839816154395969593266132477885300 (beV (sha (AF (mC 102 101 m m true 3 11 BA).body)) 0) (beV (Bd (BQ [33554432,0,0,0,0,0,0,5]++sha (AF (mC 102 101 m m true 3 11 BA).body))) 0)=true:=by
 intro m hm;by_cases h:m<128
 ·exact EQ io (by decide+kernel) (by decide+kernel) (by decide+kernel) mK5.wl mK5.wn (by decide) it m h
 ·have:=EP im (by decide+kernel) (by decide+kernel) (by decide+kernel) mK5.wl mK5.wn (by decide) ir (m-128) (by omega)
  rw[show 128+(m-128)=m by omega]at this;exact this
theorem VB: ∀m,m<1000→mF 102 101 m m true 3 11 BA:=fun m hm=>⟨by decide,by decide,by decide,by decide,by omega,by omega,by decide+kernel,by decide+kernel,M9⟩
theorem iq(m:Nat)(hm:m<1000): ∃r t,r<R∧t<R∧Known (mC 102 101 m m true 3 11 BA) 904625697166532776746648320380374280103671755200316906558262375061821325317 r t∧Bh A9 (BK (mC 102 101 m m true 3 11 BA)) r t=0:=Cx (VB m hm) (CB _ _) mK5 (ip m hm)
theorem ik:grp (AF (mB 103 102 [0] [0] true 4 7 A9)) (64*4-(38+3)) (64*4-(38+6)) 0 128 4 74638001829916188297585177649706581137393156834001479617818657409151875249098 [33554432,0,0,0,0,0,0,6]=true:=by decide+kernel
theorem ij:grp (AF (mB 103 102 [0,0] [0,0] true 4 7 A9)) (64*4-(38+4)) (64*4-(38+8)) 128 872 4 74638001829916188297585177649706581137393156834001479617818657409151875249098 [33554432,0,0,0,0,0,0,6]=true:=by decide+kernel
theorem ib: ∀u,AF (mB 103 102 [u] [u] true 4 7 A9)=(AF (mB 103 102 [0] [0] true 4 7 A9)).take 38++2::1::u::2::1::u::(AF (mB 103 102 [0] [0] true 4 7 A9)).drop (38+6):=fun u=>by kernel_rfl
theorem ia: ∀u v,AF (mB 103 102 [u,v] [u,v] true 4 7 A9)=(AF (mB 103 102 [0,0] [0,0] true 4 7 A9)).take 38++2::2::u::v::2::2::u::v::(AF (mB 103 102 [0,0] [0,0] true 4 7 A9)).drop (38+8):=fun u v=>by kernel_rfl
theorem ic: ∀m,m<1000→Bi TT 74638001829916188297585177649706581137393156834001479617818657409151875249098 (beV (sha (AF (mC 103 102 m m true 4 7 A9).body)) 0) (beV (Bd (BQ [33554432,0,0,0,0,0,0,6]++sha (AF (mC 103 102 m m true 4 7 A9).body))) 0)=true:=by
 intro m hm;by_cases h:m<128
 ·exact EQ ib (by decide+kernel) (by decide+kernel) (by decide+kernel) mK6.wl mK6.wn (by decide) ik m h
 ·have:=EP ia (by decide+kernel) (by decide+kernel) (by decide+kernel) mK6.wl mK6.wn (by decide) ij (m-128) (by omega)
  rw[show 128+(m-128)=m by omega]at this;exact this
theorem VA: ∀m,m<1000→mF 103 102 m m true 4 7 A9:=fun m hm=>⟨by decide,by decide,by decide,by decide,by omega,by omega,by decide+kernel,by decide+kernel,M8⟩
theorem ig(m:Nat)(hm:m<1000): ∃r t,r<R∧t<R∧Known (mC 103 102 m m true 4 7 A9) 904625697166532776746648320380374280103671755200316906558262375061821325318 r t∧Bh Cj (BK (mC 103 102 m m true 4 7 A9)) r t=0:=Cx (VA m hm) (CB _ _) mK6 (ic m hm)
theorem iZ:grp (AF (mB 103 102 [0] [0] true 4 11 A9)) (64*4-(38+3)) (64*4-(38+6)) 0 128 4 74638001829916188297585177649706581137393156834001479617818657409151875249098 [33554432,0,0,0,0,0,0,6]=true:=by decide+kernel
theorem iY:grp (AF (mB 103 102 [0,0] [0,0] true 4 11 A9)) (64*4-(38+4)) (64*4-(38+8)) 128 872 4 74638001829916188297585177649706581137393156834001479617818657409151875249098 [33554432,0,0,0,0,0,0,6]=true:=by decide+kernel
theorem iV: ∀u,AF (mB 103 102 [u] [u] true 4 11 A9)=(AF (mB 103 102 [0] [0] true 4 11 A9)).take 38++2::1::u::2::1::u::(AF (mB 103 102 [0] [0] true 4 11 A9)).drop (38+6):=fun u=>by kernel_rfl
theorem iU: ∀u v,AF (mB 103 102 [u,v] [u,v] true 4 11 A9)=(AF (mB 103 102 [0,0] [0,0] true 4 11 A9)).take 38++2::2::u::v::2::2::u::v::(AF (mB 103 102 [0,0] [0,0] true 4 11 A9)).drop (38+8):=fun u v=>by kernel_rfl
theorem iW: ∀m,m<1000→Bi TT 74638001829916188297585177649706581137393156834001479617818657409151875249098 (beV (sha (AF (mC 103 102 m m true 4 11 A9).body)) 0) (beV (Bd (BQ [33554432,0,0,0,0,0,0,6]++sha (AF (mC 103 102 m m true 4 11 A9).body))) 0)=true:=by
 intro m hm;by_cases h:m<128
 ·exact EQ iV (by decide+kernel) (by decide+kernel) (by decide+kernel) mK6.wl mK6.wn (by decide) iZ m h
 ·have:=EP iU (by decide+kernel) (by decide+kernel) (by decide+kernel) mK6.wl mK6.wn (by decide) iY (m-128) (by omega)
  rw[show 128+(m-128)=m by omega]at this;exact this
theorem U9: ∀m,m<1000→mF 103 102 m m true 4 11 A9:=fun m hm=>⟨by decide,by decide,by decide,by decide,by omega,by omega,by decide+kernel,by decide+kernel,M8⟩
theorem iX(m:Nat)(hm:m<1000): ∃r t,r<R∧t<R∧Known (mC 103 102 m m true 4 11 A9) 904625697166532776746648320380374280103671755200316906558262375061821325318 r t∧Bh Cj (BK (mC 103 102 m m true 4 11 A9)) r t=0:=Cx (U9 m hm) (CB _ _) mK6 (iW m hm)
end Go.Proofs.YtefpajmkaaielaaGreatDoor
