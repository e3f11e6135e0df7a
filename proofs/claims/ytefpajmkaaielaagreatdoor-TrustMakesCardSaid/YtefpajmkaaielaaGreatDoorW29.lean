import Derived.Test.YtefpajmkaaielaaGreatDoorW26
open Go.Proofs.Tryz
set_option maxHeartbeats 4000000
set_option maxRecDepth 100000
namespace Go.Proofs.YtefpajmkaaielaaGreatDoor
open Go.RowKit Go.Vx
open TollMont
open Go.Toll (Gw)
open TollEc (F pp cb Jp Pt AZ add base nn neg TT Bi)
open TollSha (sha Ap An Bl BE)
open TollSimd (BQ Bd)
open TollBy (beV)
theorem jJ:grp (AF (mB 101 100 [0] [0] true 2 7 BB)) (64*4-(38+3)) (64*4-(38+6)) 0 128 4 77720636907970098743213649865978049386981012036798825840844415520655311905399 [33554432,0,0,0,0,0,0,4]=true:=by decide+kernel
theorem jI:grp (AF (mB 101 100 [0,0] [0,0] true 2 7 BB)) (64*4-(38+4)) (64*4-(38+8)) 128 872 4 77720636907970098743213649865978049386981012036798825840844415520655311905399 [33554432,0,0,0,0,0,0,4]=true:=by decide+kernel
theorem jF: ∀u,AF (mB 101 100 [u] [u] true 2 7 BB)=(AF (mB 101 100 [0] [0] true 2 7 BB)).take 38++2::1::u::2::1::u::(AF (mB 101 100 [0] [0] true 2 7 BB)).drop (38+6):=fun u=>by kernel_rfl
theorem jE: ∀u v,AF (mB 101 100 [u,v] [u,v] true 2 7 BB)=(AF (mB 101 100 [0,0] [0,0] true 2 7 BB)).take 38++2::2::u::v::2::2::u::v::(AF (mB 101 100 [0,0] [0,0] true 2 7 BB)).drop (38+8):=fun u v=>by kernel_rfl
theorem jG: ∀m,m<1000→Bi TT 77720636907970098743213649865978049386981012036798825840844415520655311905399 (beV (sha (AF (mC 101 100 m m true 2 7 BB).body)) 0) (beV (Bd (BQ [33554432,0,0,0,0,0,0,4]++sha (AF (mC 101 100 m m true 2 7 BB).body))) 0)=true:=by
 intro m hm;by_cases h:m<128
 ·exact EQ jF (by decide+kernel) (by decide+kernel) (by decide+kernel) mK4.wl mK4.wn (by decide) jJ m h
 ·have:=EP jE (by decide+kernel) (by decide+kernel) (by decide+kernel) mK4.wl mK4.wn (by decide) jI (m-128) (by omega)
  rw[show 128+(m-128)=m by omega]at this;exact this
theorem VF: ∀m,m<1000→mF 101 100 m m true 2 7 BB:=fun m hm=>⟨by decide,by decide,by decide,by decide,by omega,by omega,by decide+kernel,by decide+kernel,NA⟩
theorem jH(m:Nat)(hm:m<1000): ∃r t,r<R∧t<R∧Known (mC 101 100 m m true 2 7 BB) 904625697166532776746648320380374280103671755200316906558262375061821325316 r t∧Bh BA (BK (mC 101 100 m m true 2 7 BB)) r t=0:=Cx (VF m hm) (CB _ _) mK4 (jG m hm)
theorem jD:grp (AF (mB 101 100 [0] [0] true 2 11 BB)) (64*4-(38+3)) (64*4-(38+6)) 0 128 4 77720636907970098743213649865978049386981012036798825840844415520655311905399 [33554432,0,0,0,0,0,0,4]=true:=by decide+kernel
theorem jC:grp (AF (mB 101 100 [0,0] [0,0] true 2 11 BB)) (64*4-(38+4)) (64*4-(38+8)) 128 872 4 77720636907970098743213649865978049386981012036798825840844415520655311905399 [33554432,0,0,0,0,0,0,4]=true:=by decide+kernel
theorem i9: ∀u,AF (mB 101 100 [u] [u] true 2 11 BB)=(AF (mB 101 100 [0] [0] true 2 11 BB)).take 38++2::1::u::2::1::u::(AF (mB 101 100 [0] [0] true 2 11 BB)).drop (38+6):=fun u=>by kernel_rfl
theorem i7: ∀u v,AF (mB 101 100 [u,v] [u,v] true 2 11 BB)=(AF (mB 101 100 [0,0] [0,0] true 2 11 BB)).take 38++2::2::u::v::2::2::u::v::(AF (mB 101 100 [0,0] [0,0] true 2 11 BB)).drop (38+8):=fun u v=>by kernel_rfl
theorem jA: ∀m,m<1000→Bi TT 77720636907970098743213649865978049386981012036798825840844415520655311905399 (beV (sha (AF (mC 101 100 m m true 2 11 BB).body)) 0) (beV (Bd (BQ [33554432,0,0,0,0,0,0,4]++sha (AF (mC 101 100 m m true 2 11 BB).body))) 0)=true:=by
 intro m hm;by_cases h:m<128
 ·exact EQ i9 (by decide+kernel) (by decide+kernel) (by decide+kernel) mK4.wl mK4.wn (by decide) jD m h
 ·have:=EP i7 (by decide+kernel) (by decide+kernel) (by decide+kernel) mK4.wl mK4.wn (by decide) jC (m-128) (by omega)
  rw[show 128+(m-128)=m by omega]at this;exact this
theorem VD: ∀m,m<1000→mF 101 100 m m true 2 11 BB:=fun m hm=>⟨by decide,by decide,by decide,by decide,by omega,by omega,by decide+kernel,by decide+kernel,NA⟩
theorem jB(m:Nat)(hm:m<1000): ∃r t,r<R∧t<R∧Known (mC 101 100 m m true 2 11 BB) 904625697166532776746648320380374280103671755200316906558262375061821325316 r t∧Bh BA (BK (mC 101 100 m m true 2 11 BB)) r t=0:=Cx (VD m hm) (CB _ _) mK4 (jA m hm)
theorem i6:grp (AF (mB 102 101 [0] [0] true 3 7 BA)) (64*4-(38+3)) (64*4-(38+6)) 0 128 4 20859251098157752118482267957895595569935993839816154395969593266132477885300 [33554432,0,0,0,0,0,0,5]=true:=by decide+kernel
theorem iz:grp (AF (mB 102 101 [0,0] [0,0] true 3 7 BA)) (64*4-(38+4)) (64*4-(38+8)) 128 872 4 20859251098157752118482267957895595569935993839816154395969593266132477885300 [33554432,0,0,0,0,0,0,5]=true:=by decide+kernel
theorem iv: ∀u,AF (mB 102 101 [u] [u] true 3 7 BA)=(AF (mB 102 101 [0] [0] true 3 7 BA)).take 38++2::1::u::2::1::u::(AF (mB 102 101 [0] [0] true 3 7 BA)).drop (38+6):=fun u=>by kernel_rfl
theorem iu: ∀u v,AF (mB 102 101 [u,v] [u,v] true 3 7 BA)=(AF (mB 102 101 [0,0] [0,0] true 3 7 BA)).take 38++2::2::u::v::2::2::u::v::(AF (mB 102 101 [0,0] [0,0] true 3 7 BA)).drop (38+8):=fun u v=>by kernel_rfl
theorem iw: ∀m,m<1000→Bi TT 20859251098157752118482267957895595569935993839816154395969593266132477885300 (beV (sha (AF (mC 102 101 m m true 3 7 BA).body)) 0) (beV (Bd (BQ [33554432,0,0,0,0,0,0,5]++sha (AF (mC 102 101 m m true 3 7 BA).body))) 0)=true:=by
 intro m hm;by_cases h:m<128
 ·exact EQ iv (by decide+kernel) (by decide+kernel) (by decide+kernel) mK5.wl mK5.wn (by decide) i6 m h
 ·have:=EP iu (by decide+kernel) (by decide+kernel) (by decide+kernel) mK5.wl mK5.wn (by decide) iz (m-128) (by omega)
  rw[show 128+(m-128)=m by omega]at this;exact this
theorem VC: ∀m,m<1000→mF 102 101 m m true 3 7 BA:=fun m hm=>⟨by decide,by decide,by decide,by decide,by omega,by omega,by decide+kernel,by decide+kernel,M9⟩
theorem iy(m:Nat)(hm:m<1000): ∃r t,r<R∧t<R∧Known (mC 102 101 m m true 3 7 BA) 904625697166532776746648320380374280103671755200316906558262375061821325317 r t∧Bh A9 (BK (mC 102 101 m m true 3 7 BA)) r t=0:=Cx (VC m hm) (CB _ _) mK5 (iw m hm)
end Go.Proofs.YtefpajmkaaielaaGreatDoor
