import Derived.Test.YtefpajmkaaielaaGreatDoorW20
open Go.Proofs.Tryz
set_option maxHeartbeats 4000000
set_option maxRecDepth 100000
namespace Go.Proofs.YtefpajmkaaielaaGreatDoor
open Go.RowKit Go.Vx
open TollMont
open Go.Toll (Gw)
open TollEc (F pp cb Jp Pt AZ add base nn neg)
open TollSha (sha Ap)
theorem nS{cv rv kv:Value}{now use se fr to pa us i:Int}{is su:List Nat}(w:World)(hi1:1≤i)(hi2:i≤6)(hp:decide (pa≥i-1)=true)(ht1:decide (now<fr)=false)(ht2:decide (now>to)=false):CBy 14 #[CHV cv rv now use,.int .i64 i,.agg #[.int .i64 se,.string (AI is),.string (AI su),.int .i64 fr,.int .i64 to,kv,.bool true,.int .i64 pa,.int .i64 us]] w (.nilIface):=by
 go_enter func14,ntmps14
 refine AO ?_;iterate 14 refine AA ?_
 refine pQ ?_;refine pb ?_;iterate 7 refine AA ?_
 refine pJ ?_;iterate 7 refine k_g ?_
 iterate 4 refine AA ?_
 refine LF ?_;iterate 5 refine AA ?_
 refine Qw ?_;iterate 16 refine AA ?_
 exact AG (AD (AM results14 (AE rfl)) fun _ _ hr=>⟨rfl,hr.1⟩)
end Go.Proofs.YtefpajmkaaielaaGreatDoor
