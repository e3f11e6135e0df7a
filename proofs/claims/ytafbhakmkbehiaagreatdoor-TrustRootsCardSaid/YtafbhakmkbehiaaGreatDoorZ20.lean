import Derived.Lib.BufferMore
import Derived.Test.YtafbhakmkbehiaaGreatDoorZ18
open Go.Proofs.Tryz
set_option maxHeartbeats 4000000
set_option maxRecDepth 100000
namespace Go.Proofs.YtafbhakmkbehiaaGreatDoor
open Go.RowKit Go.Vx
variable(w:World){bs:List Nat}{n:Nat}{S:Nat→Prop}
open Go.Toll (Gw)
theorem DI{α:Type}{l:List α}(h:l.length=3): ∃a b c,l=[a,b,c]:=by
 match l,h with
 | [a,b,c],_=>exact⟨a,b,c,rfl⟩
def n8(n:Nat):Nat:=n %256
theorem pF(n:Nat)(w:World):(convert 3 5 (.int .i64 (n:Nat))).run prog w= .ok (.int .u8 ((n8 n:Nat):Int)) w:=by
 unfold convert
 go_simp
 rw[IntKind.wrap_u8'];rfl
def tb(t:Int):Nat:=(t %256).toNat
theorem T7(t:Int)(w:World):(convert 3 5 (.int .i64 t)).run prog w= .ok (.int .u8 ((tb t:Nat):Int)) w:=by
 unfold convert
 go_simp
 rw[IntKind.wrap_u8'];unfold tb;omega
def hb(n k:Nat):Nat:=n/2^k
theorem Ro(n:Nat)(_hn:n<9223372036854775808)(p q:Operand)(w:World):(do eqGuard .shr 3 p q (.int .i64 (n:Nat)) (.int .u64 8);binOp .shr 3 (.int .i64 (n:Nat)) (.int .u64 8):Sem Value).run prog w= .ok (.int .i64 ((hb n 8:Nat):Int)) w:=by
 go_simp
 unfold hb;try rfl
theorem fP(n:Nat)(_hn:n<9223372036854775808)(p q:Operand)(w:World):(do eqGuard .shr 3 p q (.int .i64 (n:Nat)) (.int .u64 16);binOp .shr 3 (.int .i64 (n:Nat)) (.int .u64 16):Sem Value).run prog w= .ok (.int .i64 ((hb n 16:Nat):Int)) w:=by
 go_simp
 unfold hb;try rfl
def Ao(n:Nat):List Nat:=bif decide (n<128)then [n8 n]else bif decide (n<256)then [129,n8 n]else bif decide (n<65536)then [130,n8 (hb n 8),n8 n]else [131,n8 (hb n 16),n8 (hb n 8),n8 n]
theorem ov(n c:Nat)(p q:Operand)(w:World):(do eqGuard .eql 23 p q (.slice none n c) (.slice none 0 0);binOp .eql 23 (.slice none n c) (.slice none 0 0):Sem Value).run prog w= .ok (.bool true) w:=by
 go_simp
 exact Go.Lib.run_eql_slice_nil_nil w n c underlying23
theorem ow(a:Addr)(n c:Nat)(p q:Operand)(w:World):(do eqGuard .eql 23 p q (.slice (some a) n c) (.slice none 0 0);binOp .eql 23 (.slice (some a) n c) (.slice none 0 0):Sem Value).run prog w= .ok (.bool false) w:=by
 go_simp
 exact Go.Lib.run_eql_slice_some_nil w a n c underlying23
theorem Ri:AO w (.slice none 0 0) 0 1 [] (fun _=>False):=⟨none,0,rfl,Nat.le_refl _,rfl,.inl rfl⟩
theorem pM(n:Nat)(hn:n<9223372036854775808)(w:World):Calls prog 96 #[.int .i64 (n:Nat)] w fun e w'=> ∃v,e= .returned v∧BN w w' v ((Ao n).length) 1 5 ((Ao n).map b8)∧Bw w w':=by
 unfold Ao;obtain⟨q1,h_q1⟩: ∃p,decide (n<128)=p:=⟨_,rfl⟩
 obtain⟨q2,h_q2⟩: ∃p,decide (n<256)=p:=⟨_,rfl⟩
 obtain⟨q3,h_q3⟩: ∃p,decide (n<65536)=p:=⟨_,rfl⟩
 rw[h_q1,h_q2,h_q3];have h_q1':=(CL n 128).trans h_q1;have h_q2':=(CL n 256).trans h_q2;have h_q3':=(CL n 65536).trans h_q3
 go_enter func96,ntmps96
 refine FW ?_
 refine k_s (by exact D8 rfl gg rfl rfl h_q1') ?_;iterate 2 refine k_k ?_
 cases q1
 ·iterate 4 refine k_k ?_
  refine k_s (by exact D8 rfl gg rfl rfl h_q2') ?_;iterate 2 refine k_k ?_
  cases q2
  ·iterate 4 refine k_k ?_
   refine k_s (by exact D8 rfl gg rfl rfl h_q3') ?_;iterate 2 refine k_k ?_
   cases q3
   ·iterate 5 refine k_k ?_
    refine k_s (by exact AK rfl gg rfl rfl (fun w=>fP _ hn _ _ w)) ?_;refine FQ ?_;refine k_k ?_;refine k_s (by exact AK rfl gg rfl rfl (fun w=>Ro _ hn _ _ w)) ?_;refine FQ ?_;refine k_k ?_;refine FQ ?_;refine k_s (by exact BL rfl rfl gg rfl (e:=5) (l:=[b8 (131),b8 (n8 (hb n 16)),b8 (n8 (hb n 8)),b8 (n8 n)]) rfl (by decide) (fun _=>by kernel_rfl)) ?_;iterate 2 refine k_k ?_
    refine AG ?_;refine AD (AH results96 (AF rfl)) ?_;intro ρ w' hr;exact⟨_,rfl,B8 hr rfl,hr.1⟩
   ·iterate 4 refine k_k ?_
    refine k_s (by exact AK rfl gg rfl rfl (fun w=>Ro _ hn _ _ w)) ?_;refine FQ ?_;refine k_k ?_;refine FQ ?_;refine k_s (by exact BL rfl rfl gg rfl (e:=5) (l:=[b8 (130),b8 (n8 (hb n 8)),b8 (n8 n)]) rfl (by decide) (fun _=>by kernel_rfl)) ?_;iterate 2 refine k_k ?_
    refine AG ?_;refine AD (AH results96 (AF rfl)) ?_;intro ρ w' hr;exact⟨_,rfl,B8 hr rfl,hr.1⟩
  ·iterate 4 refine k_k ?_
   refine FQ ?_;refine k_s (by exact BL rfl rfl gg rfl (e:=5) (l:=[b8 (129),b8 (n8 n)]) rfl (by decide) (fun _=>by kernel_rfl)) ?_;iterate 2 refine k_k ?_
   refine AG ?_;refine AD (AH results96 (AF rfl)) ?_;intro ρ w' hr;exact⟨_,rfl,B8 hr rfl,hr.1⟩
 ·iterate 4 refine k_k ?_
  refine FQ ?_;refine k_s (by exact BL rfl rfl gg rfl (e:=5) (l:=[b8 (n8 n)]) rfl (by decide) (fun _=>by kernel_rfl)) ?_;iterate 2 refine k_k ?_
  refine AG ?_;refine AD (AH results96 (AF rfl)) ?_;intro ρ w' hr;exact⟨_,rfl,B8 hr rfl,hr.1⟩
theorem pc{c:Nat}:Calls prog 63 #[.slice none n c] w fun e w'=> ∃v,e= .returned v∧BN w w' v (0) 1 5 ([])∧Bw w w':=by
 go_enter func63,ntmps63
 refine C6 ?_
 refine k_s (by exact AK (c:= .bool true) rfl gg rfl rfl (fun w=>ov _ _ _ _ w)) ?_;iterate 6 refine k_k ?_
 refine AG ?_;refine AD (AH results63 (AF rfl)) ?_;intro ρ w' hr;exact⟨_,rfl,I1 _ _ _ _,hr.1⟩
theorem pb{a:Addr}{c:Nat}(hv:AO w (.slice (some a) n c) bs.length 1 (bs.map b8) S)(hm:bs.length≤1073741824):Calls prog 63 #[.slice (some a) n c] w fun e w'=> ∃v,e= .returned v∧BN w w' v (bs.length) 1 5 (bs.map b8)∧Bw w w':=by
 go_enter func63,ntmps63
 refine C6 ?_
 refine k_s (by exact AK (c:= .bool false) rfl gg rfl rfl (fun w=>ow _ _ _ _ _ w)) ?_;iterate 5 refine k_k ?_
 refine k_s (by exact BL rfl rfl gg rfl (e:=5) (l:=[]) rfl (by decide) (fun _=>by kernel_rfl)) ?_;refine k_k ?_;refine k_s (by exact Di rfl rfl gg rfl rfl rfl (AW hv) underlying23 el5 (by decide) rfl (DR bs) (by simp only[maxLen];omega) (by omega) (by simp)) ?_;iterate 2 refine k_k ?_
 refine AG ?_;refine AD (AH results63 (AF rfl)) ?_;intro ρ w' hr;exact⟨_,rfl,B8 (id:=7) hr rfl,hr.1⟩
theorem Nl{v:Value}(hv:AO w v bs.length 1 (bs.map b8) S)(hm:bs.length≤1073741824):Calls prog 63 #[v] w fun e w'=> ∃v,e= .returned v∧BN w w' v (bs.length) 1 5 (bs.map b8)∧Bw w w':=by
 have hv':=hv;obtain⟨ao,cap,rfl,h1,h2,h3⟩:=hv';cases ao with
 |none=>
  have:bs=[]:=by
   rcases h3 with h3|⟨a,h3,_⟩
   ·simpa using h3
   ·cases h3
  subst this;exact pc w
 |some a=>exact pb w hv hm
theorem ni(n:Nat)(hn:n≤140737488355328)(w:World):Calls prog 150 #[.slice none 0 0,.int .i64 (n:Nat)] w fun e w'=> ∃v,e= .returned v∧BN w w' v (0) 1 5 ([])∧Bw w w':=by
 obtain⟨q,h_q⟩: ∃p,decide (n>0)=p:=⟨_,rfl⟩
 have h_q':=(Cr n 0).trans h_q
 go_enter func150,ntmps150
 refine C6 ?_
 refine Pn ?_;iterate 8 refine k_k ?_
 refine k_s (by refine D6 gg (fun ρ w=>by simp only[VS.act,SV.c,List.map_cons,List.map_nil];go_simp;exact rfl) (fun _ _=>rfl)) ?_;refine k_k ?_;refine k_s (by exact BU rfl gg rfl underlying23 (AW (Ri w))) ?_;refine k_s (by exact Bu (c:=0) rfl gg rfl rfl rfl) ?_;refine k_s (by exact Bu (c:=((n:Nat):Int)) rfl gg rfl rfl (by rw[Ah (by omega) (by omega)];omega)) ?_;iterate 5 refine k_k ?_
 refine Kz ?_;refine k_k ?_;cases q
 ·iterate 7 refine k_k ?_
  refine AG ?_;refine AD (AH results150 (AF rfl)) ?_;intro ρ w' hr
  (first|exact⟨_,rfl,I1 _ _ _ _,hr.1⟩|exact⟨_,rfl,B8 hr rfl,hr.1⟩)
 ·iterate 4 refine k_k ?_
  refine k_s (by refine D6 gg (fun ρ w=>by simp only[VS.act,SV.c,List.map_cons,List.map_nil];go_simp;exact rfl) (fun _ _=>rfl)) ?_;refine k_s (by exact Fa (a:=0) (b:=0) rfl gg rfl underlying23 sizeOf5 (AW (Ri w)) rfl rfl (by decide) (by decide) rfl) ?_;refine k_k ?_;refine k_s (by exact ou rfl rfl gg rfl rfl underlying23 underlying3 el5 zeroValue5 rfl (by have:=of_decide_eq_true h_q;omega) hn) ?_;refine k_k ?_;refine k_s (by exact BU rfl gg rfl underlying23 (AW (Ri w))) ?_;refine k_s (by exact oS (b:=0) rfl rfl gg rfl rfl underlying23 sizeOf5 rfl rfl (Nat.zero_le _) rfl (by simp)) ?_;iterate 7 refine k_k ?_
  refine AG ?_;refine AD (AH results150 (AF rfl)) ?_;intro ρ w' hr
  (first|exact⟨_,rfl,I1 _ _ _ _,hr.1⟩|exact⟨_,rfl,B8 hr rfl,hr.1⟩)
end Go.Proofs.YtafbhakmkbehiaaGreatDoor
