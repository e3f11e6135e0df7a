import Derived.Test.YtafbhakmkbehiaaGreatDoorZ8
open Go.Proofs.Tryz
set_option maxHeartbeats 4000000
set_option maxRecDepth 100000
namespace Go.Proofs.YtafbhakmkbehiaaGreatDoor
open Go.RowKit Go.Vx
variable{ops:Array Oper}{e:Eff}{Q:Exit→VS→Prop}{fr:List SV}{id:Nat}{o:Oper}{P:Program}{A B:Prop}{s s1:VS}{w0:World}
def k_K(P:Program)(ops:Array Oper)(w0:World)(l:List Oper)(s:VS)(R:List Eff→VS→Prop):Prop:= ∃E s',VE P ops w0 l E s s'∧R E s'
theorem k_n{R:List Eff→VS→Prop}(h:R [] s):k_K P ops w0 [] s R:=⟨[],s,.nil s,h⟩
theorem k_c{l:List Oper}{R:List Eff→VS→Prop}(h:Ev P ops w0 o s e)(hs:s.put o.dst e=s1)(r:k_K P ops w0 l s1 (fun E s'=>R (e::E) s')):k_K P ops w0 (o::l) s R:=by
 subst hs;obtain⟨E,s',h1,h2⟩:=r;exact⟨_,_,.cons h h1,h2⟩
theorem k_p{l:List Oper}{m:List (Nat×Blk)}(h:k_K P l.toArray w0 l ⟨fr,AJ m⟩ fun E s'=>(l.all (fun o=> !Dv o.op) && B9 E && Es fr m E)=true∧Q .normal s'):VOk P w0 ⟨fr,AJ m⟩ (.region id l.toArray false) Q:=by
 obtain⟨E,s',h1,h2,h3⟩:=h;exact vrp h1 h2 h3
theorem k_d{l:List Oper}{m:List (Nat×Blk)}(hm:P.follows .mixedOrders=true)(h:k_K P l.toArray w0 l ⟨fr,AJ m⟩ fun E s'=>(veB l.toArray l E && Es fr m E)=true∧Q .normal s'):VOk P w0 ⟨fr,AJ m⟩ (.region id l.toArray true) Q:=by
 obtain⟨E,s',h1,h2,h3⟩:=h;exact vrd hm h1 h2 h3
theorem k_s{l:List Oper}{R:List Eff→VS→Prop}(h:Ev P ops w0 o s e)(r:k_K P ops w0 l s1 (fun E s'=>R (e::E) s'))(hs:s.put o.dst e=s1:=by first|(simp only[nm,seval];exact rfl)|exact rfl):k_K P ops w0 (o::l) s R:=k_c h hs r
theorem k_i{l:List Oper}{R:List Eff→VS→Prop}(h:Ev P ops w0 o s e)(hb:B→k_K P ops w0 l s1 (fun E s'=>R (e::E) s'))(hs:s.put o.dst e=s1:=by first|(simp only[nm,seval];exact rfl)|exact rfl):B→k_K P ops w0 (o::l) s R:=fun b=>k_c h hs (hb b)
theorem AX{l:List Oper}{R:List Eff→VS→Prop}(h:Ev P ops w0 o s e)(r:k_K P ops w0 l s1 (fun E s'=>R (e::E) s'))(hs:s.put o.dst e=s1:=by first|(simp only[nmx,seval];exact rfl)|exact rfl):k_K P ops w0 (o::l) s R:=k_c h hs r
theorem A3{l:List Oper}{R:List Eff→VS→Prop}(h:Ev P ops w0 o s e)(hb:B→k_K P ops w0 l s1 (fun E s'=>R (e::E) s'))(hs:s.put o.dst e=s1:=by first|(simp only[nmx,seval];exact rfl)|exact rfl):B→k_K P ops w0 (o::l) s R:=fun b=>k_c h hs (hb b)
theorem k_0(b:B)(c:B→A:=by exact k_i (by first|exact Ev.skip (fun _=>rfl)|exact Ap rfl (fun _=>rfl)) id):A:=c b
theorem k_1(b:B)(c:B→A:=by exact A3 (by first|exact LI (a:=1) (k:=1) (p:=fun xs=>xs.take 1=List.replicate 1 (Value.int .u8 1)) (q:=fun xs=>xs.take 2=List.replicate 2 (Value.int .u8 1)) (news:=List.replicate 1 (.int .u8 1)) rfl gg rfl (.inr rfl) rfl rfl (L4 rfl (fun xs h _=>by rw[List.drop_zero];exact h) (by decide) (by decide) rfl) underlying23 Er (by decide) (by decide) (by decide) (fun xs h hx=>NQ (by omega) h)|exact LI (a:=2) (k:=2) (p:=fun xs=>xs.take 2=List.replicate 2 (Value.int .u8 1)) (q:=fun xs=>xs.take 4=List.replicate 4 (Value.int .u8 1)) (news:=List.replicate 2 (.int .u8 1)) rfl gg rfl (.inr rfl) rfl rfl (L4 rfl (fun xs h _=>by rw[List.drop_zero];exact h) (by decide) (by decide) rfl) underlying23 Er (by decide) (by decide) (by decide) (fun xs h hx=>NQ (by omega) h)|exact LI (a:=4) (k:=4) (p:=fun xs=>xs.take 4=List.replicate 4 (Value.int .u8 1)) (q:=fun xs=>xs.take 8=List.replicate 8 (Value.int .u8 1)) (news:=List.replicate 4 (.int .u8 1)) rfl gg rfl (.inr rfl) rfl rfl (L4 rfl (fun xs h _=>by rw[List.drop_zero];exact h) (by decide) (by decide) rfl) underlying23 Er (by decide) (by decide) (by decide) (fun xs h hx=>NQ (by omega) h)|exact LI (a:=8) (k:=8) (p:=fun xs=>xs.take 8=List.replicate 8 (Value.int .u8 1)) (q:=fun xs=>xs.take 16=List.replicate 16 (Value.int .u8 1)) (news:=List.replicate 8 (.int .u8 1)) rfl gg rfl (.inr rfl) rfl rfl (L4 rfl (fun xs h _=>by rw[List.drop_zero];exact h) (by decide) (by decide) rfl) underlying23 Er (by decide) (by decide) (by decide) (fun xs h hx=>NQ (by omega) h)|exact LI (a:=16) (k:=16) (p:=fun xs=>xs.take 16=List.replicate 16 (Value.int .u8 1)) (q:=fun xs=>xs.take 32=List.replicate 32 (Value.int .u8 1)) (news:=List.replicate 16 (.int .u8 1)) rfl gg rfl (.inr rfl) rfl rfl (L4 rfl (fun xs h _=>by rw[List.drop_zero];exact h) (by decide) (by decide) rfl) underlying23 Er (by decide) (by decide) (by decide) (fun xs h hx=>NQ (by omega) h)) id):A:=c b
theorem k_2(b:B)(c:B→A:=by exact A3 (by first|exact BD rfl gg rfl rfl underlying64 rfl sizeOf64 rfl rfl|exact A2 rfl gg rfl underlying64 rfl sizeOf64 (by assumption) rfl|exact Bi rfl gg rfl rfl underlying64 rfl sizeOf64 rfl) id):A:=c b
theorem k_3(b:B)(c:B→A:=by exact k_i (by first|exact Ev.skip (fun _=>rfl)|refine D6 (fun _=>rfl) (fun ρ w=>by simp only[VS.act,SV.c,List.map_cons,List.map_nil];go_simp;exact rfl) (fun _ _=>rfl)) id):A:=c b
theorem k_5(b:B)(c:B→A:=by exact A3 (by first|exact BD rfl gg rfl rfl underlying147 rfl sizeOf147 rfl rfl|exact A2 rfl gg rfl underlying147 rfl sizeOf147 (by assumption) rfl|exact Bi rfl gg rfl rfl underlying147 rfl sizeOf147 rfl) id):A:=c b
theorem k_6(b:B)(c:B→A:=by exact k_i (by first|exact Et (l':=OL (F++[(X>>>24).toNat %256])) rfl gg rfl rfl rfl sizeOf5 rfl (by rw[Fi (by first|omega|(simp;omega))];omega) rfl (Qn _ (by first|omega|(simp;omega)) (by first|omega|(simp;omega)))|exact Et (l':=OL (F++[(X>>>24).toNat %256]++[(X>>>16).toNat %256])) rfl gg rfl rfl rfl sizeOf5 rfl (by rw[Fi (by first|omega|(simp;omega))];omega) rfl (Qn _ (by first|omega|(simp;omega)) (by first|omega|(simp;omega)))|exact Et (l':=OL (F++[(X>>>24).toNat %256]++[(X>>>16).toNat %256]++[(X>>>8).toNat %256])) rfl gg rfl rfl rfl sizeOf5 rfl (by rw[Fi (by first|omega|(simp;omega))];omega) rfl (Qn _ (by first|omega|(simp;omega)) (by first|omega|(simp;omega)))|exact Et (l':=OL (F++[(X>>>24).toNat %256]++[(X>>>16).toNat %256]++[(X>>>8).toNat %256]++[X.toNat %256])) rfl gg rfl rfl rfl sizeOf5 rfl (by rw[Fi (by first|omega|(simp;omega))];omega) rfl (Qn _ (by first|omega|(simp;omega)) (by first|omega|(simp;omega)))) id):A:=c b
theorem k_7(b:B)(c:B→A:=by exact A3 (by first|exact Ev.skip (fun _=>rfl)|exact BD rfl (fun _=>rfl) rfl rfl underlying64 rfl sizeOf64 rfl rfl|exact A2 rfl (fun _=>rfl) rfl underlying64 rfl sizeOf64 (by assumption) rfl|exact Bi rfl (fun _=>rfl) rfl rfl underlying64 rfl sizeOf64 rfl) id):A:=c b
theorem k_8(b:B)(c:B→A:=by exact k_i (by first|exact BA rfl gg rfl rfl rfl sizeOf61 rfl (by simp) rfl|exact Bh (vl:=[.fn (AN 0) (.d 13),.fn (AN 1) (.d 13),.fn (AN 2) (.d 13)]) [4,13] rfl gg rfl rfl rfl sizeOf61 rfl (fun ρ S w' _ hR=>by obtain⟨c,h1,h2⟩:=Cd (id:=13) hR (by simp) rfl;have hf:=fn3 h1 (CS h2);exact⟨hf.1,hf.2▸HB h2⟩) rfl (by simp)|exact Bh (vl:=[.fn (AN 0) (.d 13),.fn (AN 1) (.d 13),.fn (AN 2) (.d 13)]) [2,13] rfl gg rfl rfl rfl sizeOf61 rfl (fun ρ S w' _ hR=>by obtain⟨c,h1,h2⟩:=Cd (id:=13) hR (by simp) rfl;have hf:=fn3 h1 (CS h2);exact⟨DC _,hf.2▸HB h2⟩) rfl (by simp)) id):A:=c b
theorem k_9(b:B)(c:B→A:=by exact A3 (by refine D6 gg (fun ρ w=>by simp only[VS.act,SV.c,List.map_cons,List.map_nil];go_simp;exact rfl) (fun _ _=>rfl)) id):A:=c b
theorem mq(b:B)(c:B→A:=by exact A3 (by first|exact G2 (a:=1) (b:=32) rfl gg rfl rfl underlying23 sizeOf5 (by decide) rfl rfl (by decide) (by decide)|exact G2 (a:=2) (b:=32) rfl gg rfl rfl underlying23 sizeOf5 (by decide) rfl rfl (by decide) (by decide)|exact G2 (a:=4) (b:=32) rfl gg rfl rfl underlying23 sizeOf5 (by decide) rfl rfl (by decide) (by decide)|exact G2 (a:=8) (b:=32) rfl gg rfl rfl underlying23 sizeOf5 (by decide) rfl rfl (by decide) (by decide)|exact G2 (a:=16) (b:=32) rfl gg rfl rfl underlying23 sizeOf5 (by decide) rfl rfl (by decide) (by decide)) id):A:=c b
theorem NE(b:B)(c:B→A:=by exact A3 (by first|exact G2 (a:=0) (b:=1) rfl gg rfl rfl underlying23 sizeOf5 (by decide) rfl rfl (by decide) (by decide)|exact G2 (a:=0) (b:=2) rfl gg rfl rfl underlying23 sizeOf5 (by decide) rfl rfl (by decide) (by decide)|exact G2 (a:=0) (b:=4) rfl gg rfl rfl underlying23 sizeOf5 (by decide) rfl rfl (by decide) (by decide)|exact G2 (a:=0) (b:=8) rfl gg rfl rfl underlying23 sizeOf5 (by decide) rfl rfl (by decide) (by decide)|exact G2 (a:=0) (b:=16) rfl gg rfl rfl underlying23 sizeOf5 (by decide) rfl rfl (by decide) (by decide)) id):A:=c b
theorem Du(b:B)(c:B→A:=by exact k_i (by first|exact C7 rfl gg rfl rfl underlying248 sizeOf247 (by decide) (by decide)|exact DK rfl gg rfl rfl underlying248 sizeOf247 (by decide) (by decide)) id):A:=c b
theorem FY(b:B)(c:B→A:=by exact k_i (by first|exact BD rfl gg rfl rfl underlying61 rfl sizeOf61 rfl rfl|exact A2 rfl gg rfl underlying61 rfl sizeOf61 (by assumption) rfl|exact Bi rfl gg rfl rfl underlying61 rfl sizeOf61 rfl) id):A:=c b
theorem GA(b:B)(c:B→A:=by exact A3 (by first|exact BD rfl gg rfl rfl underlying141 rfl sizeOf141 rfl rfl|exact A2 rfl gg rfl underlying141 rfl sizeOf141 (by assumption) rfl|exact Bi rfl gg rfl rfl underlying141 rfl sizeOf141 rfl) id):A:=c b
theorem Pq(b:B)(c:B→A:=by exact k_i (by first|exact BA rfl gg rfl rfl rfl sizeOf61 rfl (by simp) rfl|exact Bh (vl:=[.fn (AN 0) (.d 67),.fn (AN 1) (.d 67),.fn (AN 2) (.d 67)]) [13,67] rfl gg rfl rfl rfl sizeOf61 rfl (fun ρ S w' _ hR=>by obtain⟨c,h1,h2⟩:=Cd (id:=67) hR (by simp) rfl;have hf:=fn3 h1 (CS h2);exact⟨hf.1,hf.2▸HB h2⟩) rfl (by simp)|exact Bh (vl:=[.v (.int .i64 (tg:Nat)),.v (.slice none 0 0),.d 900]) [4,900] rfl gg rfl rfl rfl sizeOf61 rfl (fun ρ S w' _ hR=>⟨DC _,by have hh:=Cf (id:=900) hR (by simp) rfl;simp only[SV.cs,SV.c,List.all_cons,List.all_nil,hh.2];rfl⟩) rfl (by simp)) id):A:=c b
theorem Eo(b:B)(c:B→A:=by exact k_i (by first|exact Ev.skip (fun _=>rfl)|exact CY rfl (fun _=>rfl) rfl rfl|exact Ca rfl (fun _=>rfl) rfl rfl) id):A:=c b
theorem FX(b:B)(c:B→A:=by exact A3 (by first|exact Ev.skip (fun _=>rfl)|refine D6 (fun _=>rfl) (fun ρ w=>by simp only[VS.act,SV.c,List.map_cons,List.map_nil];go_simp;exact rfl) (fun _ _=>rfl)) id):A:=c b
theorem DJ(b:B)(c:B→A:=by exact k_i (by first|exact BK rfl gg rfl rfl underlying3 rfl rfl|exact BR rfl gg rfl underlying3 rfl (by assumption)) id):A:=c b
theorem Dt(b:B)(c:B→A:=by exact k_i (by first|exact BK rfl gg rfl rfl underlying247 rfl rfl|exact BR rfl gg rfl underlying247 rfl (by assumption)) id):A:=c b
theorem mg(b:B)(c:B→A:=by exact A3 (by first|exact BE (a:=1) (b:=1) (c:=2) rfl gg rfl rfl (by decide)|exact BE (a:=2) (b:=2) (c:=4) rfl gg rfl rfl (by decide)|exact BE (a:=4) (b:=4) (c:=8) rfl gg rfl rfl (by decide)|exact BE (a:=8) (b:=8) (c:=16) rfl gg rfl rfl (by decide)|exact BE (a:=16) (b:=16) (c:=32) rfl gg rfl rfl (by decide)) id):A:=c b
theorem mf(b:B)(c:B→A:=by exact A3 (by first|exact HW (a:=1) (b:=32) (c:=1) rfl gg rfl rfl rfl|exact HW (a:=2) (b:=32) (c:=2) rfl gg rfl rfl rfl|exact HW (a:=4) (b:=32) (c:=4) rfl gg rfl rfl rfl|exact HW (a:=8) (b:=32) (c:=8) rfl gg rfl rfl rfl|exact HW (a:=16) (b:=32) (c:=16) rfl gg rfl rfl rfl) id):A:=c b
theorem ZO(b:B)(c:B→A:=by exact k_i (by first|exact Et (l':=(sha ([I].flatten++ls.flatten)).map b8) rfl gg rfl rfl rfl sizeOf64 (by simp[Value.cells,sha_len]) (by rw[Fi (by simp)];decide) (by show((sha ([I].flatten++ls.flatten)).map b8).toArray.toList.all _=true;exact DR _) (by rw[List.take_zero,List.nil_append,List.drop_of_length_le (by rw[Fi (by simp)];decide),List.append_nil];simp[Value.cells])|exact Et (l':=(sha [O,sha ([I].flatten++ls.flatten)].flatten).map b8) rfl gg rfl rfl rfl sizeOf64 (by simp[Value.cells,sha_len]) (by rw[Fi (by simp)];decide) (by show((sha [O,sha ([I].flatten++ls.flatten)].flatten).map b8).toArray.toList.all _=true;exact DR _) (by rw[List.take_zero,List.nil_append,List.drop_of_length_le (by rw[Fi (by simp)];decide),List.append_nil];simp[Value.cells])) id):A:=c b
theorem ES(b:B)(c:B→A:=by exact k_i (by first|exact Ev.skip (fun _=>rfl)|exact BV (p:=false) rfl (fun _=>rfl) rfl rfl (decide_eq_false (by omega))) id):A:=c b
theorem M5(b:B)(c:B→A:=by exact A3 (by first|exact Ev.skip (fun _=>rfl)|exact BD rfl (fun _=>rfl) rfl rfl underlying147 rfl sizeOf147 rfl rfl|exact A2 rfl (fun _=>rfl) rfl underlying147 rfl sizeOf147 (by assumption) rfl|exact Bi rfl (fun _=>rfl) rfl rfl underlying147 rfl sizeOf147 rfl) id):A:=c b
theorem M3(b:B)(c:B→A:=by exact A3 (by exact BA rfl gg rfl rfl rfl sizeOf147 rfl (by simp) rfl) id):A:=c b
theorem ER(b:B)(c:B→A:=by exact k_i (by exact BE (c:=((i+1:Nat):Int)) rfl gg rfl rfl (by rw[Ah (by omega) (by omega)];omega)) id):A:=c b
theorem CU(b:B)(c:B→A:=by exact k_i (by exact BU rfl gg rfl underlying23 (AW hv)) id):A:=c b
theorem TG(b:B)(c:B→A:=by exact A3 (by exact NU (ys:=[.s 9 0 32 32]) (size:=1) (l:=[.s 9 0 32 32]) (ls:=[[.s 9 0 32 32]]) [] rfl rfl gg rfl rfl rfl (fun ρ S w' hb hR j y lj hy hl=>by rcases j with _|j<;>simp only[List.getElem?_cons_zero,List.getElem?_cons_succ,List.getElem?_nil,Option.some.injEq,reduceCtorEq]at hy hl<;>(subst hy hl;first|exact X5)) (by simp) rfl rfl underlying43 (by kernel_rfl) (by kernel_rfl) (by decide) (by decide)) id):A:=c b
theorem HQ(b:B)(c:B→A:=by exact k_i (by first|exact BK rfl gg rfl rfl underlying23 rfl rfl|exact BR rfl gg rfl underlying23 rfl (by assumption)) id):A:=c b
theorem ZN(b:B)(c:B→A:=by exact A3 (by exact NU (ys:=[.s 9 0 32 32,.d 32,.s 2 0 32 32,.s 7 0 32 32]) (size:=1) (l:=[.s 9 0 32 32,.d 32,.s 2 0 32 32,.s 7 0 32 32]) (ls:=[[.s 9 0 32 32],[.d 32],[.s 2 0 32 32],[.s 7 0 32 32]]) [32] rfl rfl gg rfl rfl rfl (fun ρ S w' hb hR j y lj hy hl=>by have h32:=Cf (id:=32) hR (by simp) rfl;rcases j with _|_|_|_|j<;>simp only[List.getElem?_cons_zero,List.getElem?_cons_succ,List.getElem?_nil,Option.some.injEq,reduceCtorEq]at hy hl<;>(subst hy hl;first|exact X5|exact h32.1)) (by simp) rfl rfl underlying43 (by kernel_rfl) (by kernel_rfl) (by decide) (by decide)) id):A:=c b
theorem FU(b:B)(c:B→A:=by exact k_i (by exact BM (p:=false) rfl gg rfl rfl (decide_eq_false (by simp only[List.length_cons];omega))) id):A:=c b
theorem me(b:B)(c:B→A:=by exact k_i (by exact Ad (v:= .tuple #[.int .i64 (tg:Nat),.int .i64 (n:Nat),.int .i64 (k:Nat)]) rfl gg rfl (eo func99) (fun w' hb=>by have:=nL w' (A5 hv hb) h8 hbl;rw[hh]at this;exact this)) id):A:=c b
theorem ZM(b:B)(c:B→A:=by exact k_i (by first|exact Ev.skip (fun _=>rfl)|exact BU rfl (fun _=>rfl) rfl underlying23 (AW hv)) id):A:=c b
theorem F9(b:B)(c:B→A:=by exact A3 (by exact NS rfl gg rfl underlying64 sizeOf5) id):A:=c b
theorem M2(b:B)(c:B→A:=by exact A3 (by first|exact BM (p:=true) rfl gg rfl rfl (by decide)|exact BM (p:=false) rfl gg rfl rfl (by decide)) id):A:=c b
theorem ZL(b:B)(c:B→A:=by exact k_i (by exact Cs [32,27,30,900] rfl rfl gg rfl (eo func95) (n:=1+(Ao acc.length).length+acc.length) (size:=1) (l:=[b8 (tb t)]++(Ao acc.length).map b8++acc.map b8) (by simp;omega) (fun ρ S w' hb hR=>by obtain⟨_,s0⟩:=Lx (id:=27) hR (by simp) rfl;obtain⟨_,s1⟩:=Lx (id:=30) hR (by simp) rfl;obtain⟨_,s2⟩:=Lx (id:=900) hR (by simp) rfl;exact pW w' (fD (id:=32) hR (by simp) rfl) s0 s1 s2 rfl (DR _) (DR _) (by have:=QJ acc.length;omega))) id):A:=c b
theorem ZK(b:B)(c:B→A:=by exact k_i (by first|exact Cs [16] rfl rfl gg rfl (eo func63) (n:=(0::AY bs).length) (size:=1) (l:=(0::AY bs).map b8) (by simp) (fun ρ S w' hb hR=>by obtain⟨_,s0⟩:=Lx (id:=16) hR (by simp) rfl;rw[Nat.add_comm]at s0;exact Nl (bs:=0::AY bs) w' s0 (by simp;omega))|exact Cs [] rfl rfl gg rfl (eo func63) (n:=(AY bs).length) (size:=1) (l:=(AY bs).map b8) (by simp) (fun ρ S w' hb hR=>Nl w' (A5 htv hb) (by omega))) id):A:=c b
theorem Mz(b:B)(c:B→A:=by exact A3 (by exact BA rfl gg rfl rfl rfl sizeOf141 rfl (by simp) rfl) id):A:=c b
theorem F8(b:B)(c:B→A:=by exact k_i (by exact AK rfl gg rfl rfl (fun w=>sA _ _ _ _ w)) id):A:=c b
theorem mb(b:B)(c:B→A:=by exact A3 (by exact DL (D:=HY nn) (ys:=[N nn]) [] rfl rfl gg rfl (eo func80) (fun ρ S w' hb hR=>kb w' (hL.bw hb))) id):A:=c b
theorem JY(b:B)(c:B→A:=by exact k_i (by first|exact BG rfl gg rfl underlying250 rfl sizeOf23|exact BF rfl gg rfl underlying250 rfl sizeOf23) id):A:=c b
theorem Pe(b:B)(c:B→A:=by exact k_i (by first|exact Ev.skip (fun _=>rfl)|exact D7 rfl (fun _=>rfl) rfl) id):A:=c b
theorem FT(b:B)(c:B→A:=by exact A3 (by exact BZ rfl rfl gg zeroValue147) id):A:=c b
theorem Em(b:B)(c:B→A:=by exact k_i (by exact BZ rfl rfl gg zeroValue61) id):A:=c b
theorem TE(b:B)(c:B→A:=by exact A3 (by exact BA rfl gg rfl rfl rfl sizeOf64 rfl (by simp) rfl) id):A:=c b
theorem JW(b:B)(c:B→A:=by exact k_i (by exact Cb rfl gg rfl underlying5 rfl (AW hv) (rfl)) id):A:=c b
theorem TD(b:B)(c:B→A:=by exact k_i (by first|exact Ev.skip (fun _=>rfl)|exact BD rfl (fun _=>rfl) rfl rfl underlying61 rfl sizeOf61 rfl rfl|exact A2 rfl (fun _=>rfl) rfl underlying61 rfl sizeOf61 (by assumption) rfl|exact Bi rfl (fun _=>rfl) rfl rfl underlying61 rfl sizeOf61 rfl) id):A:=c b
theorem FS(b:B)(c:B→A:=by exact k_i (by exact BV (p:=false) rfl gg rfl rfl (decide_eq_false (by omega))) id):A:=c b
theorem ZJ(b:B)(c:B→A:=by exact k_i (by first|exact Bh (vl:=[.d 29]) [801,29] rfl gg rfl rfl rfl sizeOf23 rfl (fun ρ S w' _ hR=>by have hh:=Cf (id:=29) hR (by simp) rfl;exact⟨hh.1,by simp[SV.cs,SV.c,hh.2]⟩) rfl (by simp)|exact Bh (vl:=[.d 56]) [801,56] rfl gg rfl rfl rfl sizeOf23 rfl (fun ρ S w' _ hR=>by have hh:=Cf (id:=56) hR (by simp) rfl;exact⟨hh.1,by simp[SV.cs,SV.c,hh.2]⟩) rfl (by simp)) id):A:=c b
theorem Kw(b:B)(c:B→A:=by exact k_i (by first|exact BG rfl gg rfl underlying61 rfl sizeOf23|exact BF rfl gg rfl underlying61 rfl sizeOf23) id):A:=c b
theorem Kv(b:B)(c:B→A:=by exact k_i (by first|exact BG rfl gg rfl underlying61 rfl sizeOf3|exact BF rfl gg rfl underlying61 rfl sizeOf3) id):A:=c b
theorem IP(b:B)(c:B→A:=by exact k_i (by exact BE (c:=((k+n:Nat):Int)) rfl gg rfl rfl (by rw[Ah (by omega) (by omega)];omega)) id):A:=c b
theorem El(b:B)(c:B→A:=by exact k_i (by exact BU rfl gg rfl underlying23 (BI rfl)) id):A:=c b
theorem TC(b:B)(c:B→A:=by exact k_i (by first|exact BD rfl gg rfl rfl underlying248 rfl sizeOf248 rfl rfl|exact A2 rfl gg rfl underlying248 rfl sizeOf248 (by assumption) rfl|exact Bi rfl gg rfl rfl underlying248 rfl sizeOf248 rfl) id):A:=c b
theorem Kt(b:B)(c:B→A:=by exact A3 (by exact LD (a:=32) (b:=64) rfl gg rfl underlying22 sizeOf5 rfl rfl (by decide) (by decide) (by decide)) id):A:=c b
theorem Mx(b:B)(c:B→A:=by exact k_i (by first|exact Ev.skip (fun _=>rfl)|exact Bu (c:=((b.length:Int)-(k:Int))) rfl (fun _=>rfl) rfl rfl (by rw[Ah (by omega) (by omega)])) id):A:=c b
theorem Ks(b:B)(c:B→A:=by exact A3 (by exact LD (a:=0) (b:=32) rfl gg rfl underlying22 sizeOf5 rfl rfl (by decide) (by decide) (by decide)) id):A:=c b
theorem ZI(b:B)(c:B→A:=by exact k_i (by first|exact BA rfl gg rfl rfl rfl sizeOf61 rfl (by simp) rfl|exact Bh (vl:=[.v (.int .i64 (tg:Nat)),.d 53,.v (.slice none 0 0)]) [4,53] rfl gg rfl rfl rfl sizeOf61 rfl (fun ρ S w' _ hR=>⟨DC _,by have hh:=Cf (id:=53) hR (by simp) rfl;simp only[SV.cs,SV.c,List.all_cons,List.all_nil,hh.2];rfl⟩) rfl (by simp)) id):A:=c b
theorem PZ(b:B)(c:B→A:=by exact k_i (by first|exact Ev.skip (fun _=>rfl)|exact BG rfl (fun _=>rfl) rfl underlying61 rfl sizeOf23|exact BF rfl (fun _=>rfl) rfl underlying61 rfl sizeOf23) id):A:=c b
theorem ma(b:B)(c:B→A:=by exact k_i (by exact Bc (k:=1) rfl gg rfl rfl underlying23 sizeOf5 (AW hv) (by simp) (by decide)) id):A:=c b
theorem PY(b:B)(c:B→A:=by exact k_i (by first|exact Ev.skip (fun _=>rfl)|exact BK rfl (fun _=>rfl) rfl rfl underlying23 rfl rfl|exact BR rfl (fun _=>rfl) rfl underlying23 rfl (by assumption)) id):A:=c b
theorem Mw(b:B)(c:B→A:=by exact A3 (by exact BZ rfl rfl gg zeroValue141) id):A:=c b
theorem Mv(b:B)(c:B→A:=by exact k_i (by first|exact BG rfl gg rfl underlying61 rfl sizeOf59|exact BF rfl gg rfl underlying61 rfl sizeOf59) id):A:=c b
theorem JV(b:B)(c:B→A:=by exact k_i (by exact A6 (cells:= #[.int .i64 0,.slice none 0 0,.slice none 0 0]) rfl gg rfl qj) id):A:=c b
theorem Kq(b:B)(c:B→A:=by exact k_i (by first|exact Ev.skip (fun _=>rfl)|exact BV (p:=true) rfl (fun _=>rfl) rfl rfl (decide_eq_true (by omega))) id):A:=c b
theorem IM(b:B)(c:B→A:=by exact A3 (by exact BB (p:=false) rfl gg rfl rfl (by decide)) id):A:=c b
theorem FR(b:B)(c:B→A:=by exact k_i (by exact Ag (p:=true) rfl gg rfl rfl (by decide)) id):A:=c b
theorem mZ(b:B)(c:B→A:=by exact A3 (by exact Ad (v:= .tuple #[PT x y,.int .i64 0]) rfl gg rfl (eo func78) (fun w' hw'=>hrd w' hw')) id):A:=c b
theorem HP(b:B)(c:B→A:=by exact k_i (by exact BM (p:=false) rfl gg rfl rfl (decide_eq_false (by omega))) id):A:=c b
theorem ZH(b:B)(c:B→A:=by exact k_i (by first|exact Et (l':=WL (Fv b (i+1))) rfl gg rfl rfl rfl sizeOf247 rfl (by rw[ci (by rw[Oe];omega)];omega) rfl (hs1 i (by omega))|exact Et (l':=WL (M++[_])) rfl gg rfl rfl rfl sizeOf247 rfl (by rw[ci (by omega)];omega) rfl (by rw[←hMl];exact cg _ (by omega))) id):A:=c b
theorem TB(b:B)(c:B→A:=by exact k_i (by first|exact Ev.skip (fun _=>rfl)|exact Ad rfl (fun _=>rfl) rfl (eo func48) (fun w' hb=>by have:=Oh _ hok 1 _ w' _ (by decide) (ED hb hx);rw[h_q2]at this;exact this)) id):A:=c b
theorem PX(b:B)(c:B→A:=by exact A3 (by exact Ad (v:= .bool true) rfl gg rfl (eo func79) (fun w' hw'=>by have a:=LC hr w' (hL.bw hw');rw[sr]at a;exact a)) id):A:=c b
theorem JU(b:B)(c:B→A:=by exact k_i (by exact Bu (c:=((c:Int)-128)) rfl gg rfl rfl (by rw[Ah (by omega) (by omega)])) id):A:=c b
theorem IL(b:B)(c:B→A:=by exact k_i (by exact B1 rfl gg rfl (fun w=>Nc hc w)) id):A:=c b
theorem TA(b:B)(c:B→A:=by exact A3 (by first|exact Ev.skip (fun _=>rfl)|exact Ad (v:= .bool true) rfl (fun _=>rfl) rfl (eo func79) (fun w' hw'=>by have a:=LC ht w' (hL.bw hw');rw[st]at a;exact a)) id):A:=c b
theorem Kp(b:B)(c:B→A:=by exact k_i (by exact Bc (k:=i) rfl gg rfl rfl underlying23 sizeOf5 (BI rfl) (hlt) (by decide)) id):A:=c b
theorem JS(b:B)(c:B→A:=by exact A3 (by exact BZ rfl rfl gg zeroValue64) id):A:=c b
theorem Ko(b:B)(c:B→A:=by exact k_i (by first|exact Ev.skip (fun _=>rfl)|exact BV (p:=false) rfl (fun _=>rfl) rfl rfl (by decide)) id):A:=c b
theorem ZG(b:B)(c:B→A:=by exact k_i (by first|exact Ji (n:=(0::AY bs).length) (size:=1) (l:=(0::AY bs).map b8) rfl gg rfl rfl (BI rfl) (fun p m q=>Jm 2 p m q)|exact Ji (n:=(AY bs).length) (size:=1) (l:=(AY bs).map b8) rfl gg rfl rfl (BI rfl) (fun p m q=>Jm 2 p m q)) id):A:=c b
theorem Gu(b:B)(c:B→A:=by exact k_i (by exact AK rfl gg rfl rfl (fun w=>dJ _ _ _ _ w)) id):A:=c b
theorem FQ(b:B)(c:B→A:=by exact k_i (by exact B1 rfl gg rfl (fun w=>pF _ w)) id):A:=c b
theorem PW(b:B)(c:B→A:=by exact k_i (by first|exact Ev.skip (fun _=>rfl)|exact BM (p:=false) rfl (fun _=>rfl) rfl rfl (decide_eq_false (by simp only[List.length_cons];omega))) id):A:=c b
theorem JR(b:B)(c:B→A:=by exact k_i (by first|exact Ev.skip (fun _=>rfl)|exact Ew rfl (fun _=>rfl) rfl rfl h_q3') id):A:=c b
theorem Gx(b:B)(c:B→A:=by exact A3 (by exact NV rfl gg rfl underlying64 (by decide)) id):A:=c b
theorem Gv(b:B)(c:B→A:=by exact k_i (by exact BM (p:=false) rfl gg rfl rfl (by decide)) id):A:=c b
theorem Zq(b:B)(c:B→A:=by exact k_i (by exact Bh (vl:=[.v (.int .i64 2),.d 18,.v (.slice none 0 0)]) [2,18] rfl gg rfl rfl rfl sizeOf61 rfl (fun ρ S w' _ hR=>⟨DC _,by have hh:=Cf (id:=18) hR (by simp) rfl;simp only[SV.cs,SV.c,List.all_cons,List.all_nil,hh.2];rfl⟩) rfl (by simp)) id):A:=c b
theorem Te(b:B)(c:B→A:=by exact A3 (by first|exact Ev.skip (fun _=>rfl)|exact BG rfl (fun _=>rfl) rfl underlying141 rfl sizeOf64|exact BF rfl (fun _=>rfl) rfl underlying141 rfl sizeOf64) id):A:=c b
theorem mp(b:B)(c:B→A:=by exact A3 (by first|exact Ev.skip (fun _=>rfl)|exact Ap rfl (fun _=>rfl)) id):A:=c b
theorem P1(b:B)(c:B→A:=by exact k_i (by first|exact BK rfl gg rfl rfl underlying59 rfl rfl|exact BR rfl gg rfl underlying59 rfl (by assumption)) id):A:=c b
theorem Pz(b:B)(c:B→A:=by exact A3 (by exact QE rfl rfl gg rfl (eo func122) (Ck pp) 199 (fun w' hw'=>Sk w' (hL.bw hw'))) id):A:=c b
theorem ND(b:B)(c:B→A:=by exact k_i (by exact Bc (k:=0) rfl gg rfl rfl underlying23 sizeOf5 (AW hv) (by simp) (by decide)) id):A:=c b
theorem NC(b:B)(c:B→A:=by exact A3 (by exact AM rfl gg rfl (eo func87) (fun w' hw'=>rP w' (hL.bw hw'))) id):A:=c b
theorem Td(b:B)(c:B→A:=by exact A3 (by exact Aj (v:= .tuple #[N i,.int .i64 0]) [40] rfl gg rfl (eo func81) (fun ρ S w' hb hR=>bM (id:=40) hR (by simp) rfl ht hi hv)) id):A:=c b
theorem Tc(b:B)(c:B→A:=by exact A3 (by exact Aj (v:=N (i*h %nn)) [40] rfl gg rfl (eo func83) (fun ρ S w' hb hR=>QP (id:=40) hR (by simp) rfl (PR hi) hh)) id):A:=c b
theorem Tb(b:B)(c:B→A:=by exact A3 (by exact Aj (v:=N (i*r %nn)) [40] rfl gg rfl (eo func83) (fun ρ S w' hb hR=>QP (id:=40) hR (by simp) rfl (PR hi) hr)) id):A:=c b
theorem NB(b:B)(c:B→A:=by exact A3 (by exact AM rfl gg rfl (eo func82) (fun w' hw'=>ofN h hh w')) id):A:=c b
theorem Zn(b:B)(c:B→A:=by exact k_i (by exact IU [] rfl rfl gg rfl (eo func53) (n:=8) (size:=1) (ty:=5) (l:=l.map b8) (y:= .int .i64 0) (by simp[hll]) (fun ρ S w' hb hR=>VC (sz:=8) w' hok (ED hb hx) (by decide) h)) id):A:=c b
theorem Ta(b:B)(c:B→A:=by exact k_i (by exact Bu (c:=((sz-(AY b).length:Nat):Int)) rfl gg rfl rfl (by have:=of_decide_eq_false h_q4;rw[Ah (by omega) (by omega)];omega)) id):A:=c b
theorem Py(b:B)(c:B→A:=by exact k_i (by first|exact Ev.skip (fun _=>rfl)|exact Cb rfl (fun _=>rfl) rfl underlying5 rfl (AW hv) (rfl)) id):A:=c b
theorem Zm(b:B)(c:B→A:=by exact k_i (by exact DL (D:=AR t) (ys:=[rdV 8 v b,.bool true]) [] rfl rfl gg rfl (eo func52) (fun ρ S w' hb _=>by have:=Ry 8 _ _ _ 1 w' rfl (A5 hv hb) h8 hbl;rw[hz]at this;exact this)) id):A:=c b
theorem HS(b:B)(c:B→A:=by exact k_i (by exact B1 rfl gg rfl (fun w=>Nc ht w)) id):A:=c b
theorem TZ(b:B)(c:B→A:=by exact k_i (by first|exact BG rfl gg rfl underlying250 rfl sizeOf248|exact BF rfl gg rfl underlying250 rfl sizeOf248) id):A:=c b
theorem TY(b:B)(c:B→A:=by exact A3 (by first|exact Ev.skip (fun _=>rfl)|exact Bc rfl (fun _=>rfl) rfl rfl underlying23 sizeOf5 (AW hv) (by decide) (by decide)) id):A:=c b
theorem TX(b:B)(c:B→A:=by exact k_i (by first|exact BG rfl gg rfl underlying250 rfl sizeOf3|exact BF rfl gg rfl underlying250 rfl sizeOf3) id):A:=c b
theorem K8(b:B)(c:B→A:=by exact k_i (by exact BM (p:=true) rfl gg rfl rfl (decide_eq_true (by omega))) id):A:=c b
theorem K7(b:B)(c:B→A:=by exact k_i (by exact Cb rfl gg rfl underlying23 rfl (AW hv) (rfl)) id):A:=c b
theorem Zl(b:B)(c:B→A:=by exact k_i (by exact Cs [] rfl rfl gg rfl (eo func96) (n:=(Ao acc.length).length) (l:=(Ao acc.length).map b8) (by simp) (fun ρ S w' hb _=>pM acc.length (by omega) w')) id):A:=c b
theorem Px(b:B)(c:B→A:=by exact k_i (by exact BE (c:=((d+1:Nat):Int)) rfl gg rfl rfl (by rw[Ah (by omega) (by omega)];omega)) id):A:=c b
theorem Zk(b:B)(c:B→A:=by exact A3 (by first|exact Ev.skip (fun _=>rfl)|exact Aj (v:=N (xv X %nn)) [40] rfl (fun _=>rfl) rfl (eo func88) (fun ρ S w' hb hR=>bI (id:=40) hR (by simp) rfl (Hd X))) id):A:=c b
theorem TW(b:B)(c:B→A:=by exact A3 (by exact AM rfl gg rfl (eo func85) (fun w' hw'=>Ui (IB _) hA TollEc.base_on w' (hL.bw hw'))) id):A:=c b
theorem Pw(b:B)(c:B→A:=by exact k_i (by exact BE (c:=((3:Nat):Int)) rfl gg rfl rfl (by rw[Ah (by omega) (by omega)];omega)) id):A:=c b
theorem Pv(b:B)(c:B→A:=by exact k_i (by exact BE (c:=((1:Nat):Int)) rfl gg rfl rfl (by rw[Ah (by omega) (by omega)];omega)) id):A:=c b
theorem Pu(b:B)(c:B→A:=by exact k_i (by exact BE (c:=((2:Nat):Int)) rfl gg rfl rfl (by rw[Ah (by omega) (by omega)];omega)) id):A:=c b
theorem Zj(b:B)(c:B→A:=by exact k_i (by exact Cs [] rfl rfl gg rfl (eo func49) (n:=(CK t).length) (l:=(CK t).map b8) (by simp) (fun ρ S w' hb _=>U0 t hok _ w' _ (ED hb hx) hwt)) id):A:=c b
theorem Zi(b:B)(c:B→A:=by exact k_i (by exact Di rfl rfl gg rfl rfl rfl (AW htv) underlying23 el5 (by decide) (by simp) (DR _) (by have:=hle h_q4;simp only[maxLen];omega) (by have:=hle h_q4;omega) (by simp)) id):A:=c b
theorem Ps(b:B)(c:B→A:=by exact k_i (by exact aP rfl rfl gg rfl rfl underlying23 el5 zeroValue5 rfl (by omega)) id):A:=c b
theorem TU(b:B)(c:B→A:=by exact A3 (by exact AM rfl gg rfl (eo func85) (fun w' hw'=>cj (IB _) hx hy hB w' (hL.bw hw'))) id):A:=c b
theorem Zh(b:B)(c:B→A:=by exact k_i (by first|exact Ev.skip (fun _=>rfl)|exact BG rfl (fun _=>rfl) rfl underlying61 rfl sizeOf59|exact BF rfl (fun _=>rfl) rfl underlying61 rfl sizeOf59) id):A:=c b
theorem NA(b:B)(c:B→A:=by exact k_i (by exact Ag (p:=false) rfl gg rfl rfl (decide_eq_false (by omega))) id):A:=c b
theorem Zg(b:B)(c:B→A:=by exact k_i (by first|exact Ev.skip (fun _=>rfl)|exact Bc (k:=0) rfl (fun _=>rfl) rfl rfl underlying23 sizeOf5 (AW hv) (by have:=of_decide_eq_true h_p1;omega) (by decide)) id):A:=c b
theorem M9(b:B)(c:B→A:=by exact k_i (by exact BM rfl gg rfl rfl h_q) id):A:=c b
theorem Zf(b:B)(c:B→A:=by exact k_i (by first|exact Ev.skip (fun _=>rfl)|exact BK rfl (fun _=>rfl) rfl rfl underlying59 rfl rfl|exact BR rfl (fun _=>rfl) rfl underlying59 rfl (by assumption)) id):A:=c b
theorem Pr(b:B)(c:B→A:=by exact k_i (by exact Cb rfl gg rfl underlying5 rfl (AW (Nf hv hb (by omega))) (rfl)) id):A:=c b
theorem Ze(b:B)(c:B→A:=by exact k_i (by first|exact Ev.skip (fun _=>rfl)|exact BK rfl (fun _=>rfl) rfl rfl underlying3 rfl rfl|exact BR rfl (fun _=>rfl) rfl underlying3 rfl (by assumption)) id):A:=c b
theorem Pp(b:B)(c:B→A:=by exact k_i (by exact AK rfl gg rfl rfl (fun w=>Rp (v:=0) (u:=0) (by decide) rfl _ _ w)) id):A:=c b
theorem K4(b:B)(c:B→A:=by exact A3 (by exact BU rfl gg rfl underlying23 (AW hv)) id):A:=c b
theorem M8(b:B)(c:B→A:=by exact k_i (by exact BA rfl gg rfl rfl rfl sizeOf61 rfl (by simp) rfl) id):A:=c b
theorem K3(b:B)(c:B→A:=by exact k_i (by exact AK rfl gg rfl rfl (fun w=>kf _ _ _ _ w)) id):A:=c b
theorem Zd(b:B)(c:B→A:=by exact k_i (by exact oC (l':=(Eh (FO key) x (i+1)).map b8) rfl gg rfl rfl rfl sizeOf5 (rZ _) rfl hlt (by rw[←kR (by rw[hKl];exact hlt),List.map_set])) id):A:=c b
theorem mo(b:B)(c:B→A:=by exact k_i (by exact D8 (p:=true) rfl gg rfl rfl (by decide)) id):A:=c b
theorem Zc(b:B)(c:B→A:=by exact k_i (by exact Fa (a:=k+n) (b:=b.length) (v':=Ay (k+n) (b.length) 1 v) rfl gg rfl underlying23 sizeOf5 (AW hv) rfl rfl (by omega) (by omega) rfl) id):A:=c b
theorem TT(b:B)(c:B→A:=by exact A3 (by exact AM rfl gg rfl (eo func84) (fun w' hw'=>s9 hX oA oB w' (hL.bw hw'))) id):A:=c b
theorem Zb(b:B)(c:B→A:=by exact A3 (by exact P8 (vs:=l32 y) rfl gg rfl underlying64 rfl sizeOf64 (I2 (lo:=33) (hi:=65) (AW hv) (by decide) (by decide)) rfl rfl (by decide)) id):A:=c b
theorem Za(b:B)(c:B→A:=by exact k_i (by exact Di rfl rfl gg rfl rfl rfl (BI rfl) underlying23 el5 (by decide) (by simp[CW];omega) rfl (by simp only[maxLen];omega) (by omega) (by simp)) id):A:=c b
theorem TS(b:B)(c:B→A:=by exact A3 (by first|exact Ev.skip (fun _=>rfl)|exact Cb rfl (fun _=>rfl) rfl underlying5 rfl (AW hv) rfl) id):A:=c b
theorem ZZ(b:B)(c:B→A:=by exact A3 (by exact P8 (vs:=l32 x) rfl gg rfl underlying64 rfl sizeOf64 (I2 (lo:=1) (hi:=33) (AW hv) (by decide) (by decide)) rfl rfl (by decide)) id):A:=c b
theorem K0(b:B)(c:B→A:=by exact k_i (by exact BM (p:=true) rfl gg rfl rfl (by decide)) id):A:=c b
theorem ZY(b:B)(c:B→A:=by exact k_i (by exact Di rfl rfl gg rfl rfl rfl (BI rfl) underlying23 el5 (by decide) (by simp;try omega) rfl (by simp only[maxLen];omega) (by omega) (by simp)) id):A:=c b
theorem Po(b:B)(c:B→A:=by exact k_i (by first|exact Ev.skip (fun _=>rfl)|exact Ag rfl (fun _=>rfl) rfl rfl h_q2') id):A:=c b
theorem M7(b:B)(c:B→A:=by exact k_i (by exact NW (l:=OL []) rfl rfl gg zeroValue64 rfl) id):A:=c b
theorem TR(b:B)(c:B→A:=by exact A3 (by exact AM rfl gg rfl (eo func86) (fun w' hw'=>LO (i*h %nn) w')) id):A:=c b
theorem TQ(b:B)(c:B→A:=by exact A3 (by exact AM rfl gg rfl (eo func86) (fun w' hw'=>LO (i*r %nn) w')) id):A:=c b
theorem TP(b:B)(c:B→A:=by exact k_i (by exact BL rfl rfl gg rfl (e:=5) (l:=[b8 (tb t)]) rfl (by decide) (fun _=>by kernel_rfl)) id):A:=c b
theorem ZX(b:B)(c:B→A:=by exact A3 (by first|exact Ev.skip (fun _=>rfl)|exact AM rfl (fun _=>rfl) rfl (eo func124) (fun w' hw'=>S7 a nn ha (by decide) w')) id):A:=c b
theorem ZW(b:B)(c:B→A:=by exact k_i (by exact Ad (v:= .bool true) rfl gg rfl (eo func48) (fun w' hb=>hr0▸Oh t hok 1 _ w' _ (by omega) (ED hb hx))) id):A:=c b
theorem ZU(b:B)(c:B→A:=by exact k_i (by first|exact Ev.skip (fun _=>rfl)|exact Bc (k:=0) rfl (fun _=>rfl) rfl rfl underlying23 sizeOf5 (AW hv) (hpos h_q1 h_q2) (by decide)) id):A:=c b
theorem ZT(b:B)(c:B→A:=by exact k_i (by exact Fa (a:=k) (b:=k+n) (v':=Ay (k) (k+n) 1 v) rfl gg rfl underlying23 sizeOf5 (AW hv) rfl rfl (by omega) (by omega) rfl) id):A:=c b
theorem TN(b:B)(c:B→A:=by exact k_i (by first|exact Ev.skip (fun _=>rfl)|exact BU rfl (fun _=>rfl) rfl underlying23 (AW hrs)) id):A:=c b
theorem ZS(b:B)(c:B→A:=by exact A3 (by first|exact BE (a:=0) (b:=1) (c:=1) rfl gg rfl rfl (by decide)|exact BE (a:=1) (b:=1) (c:=2) rfl gg rfl rfl (by decide)) id):A:=c b
theorem ZR(b:B)(c:B→A:=by exact A3 (by first|exact Ev.skip (fun _=>rfl)|exact AM rfl (fun _=>rfl) rfl (eo func82) (fun w' hw'=>ofN (xv X) (Hd X) w')) id):A:=c b
theorem ZQ(b:B)(c:B→A:=by exact k_i (by exact oe [27,30,900] rfl rfl gg rfl rfl rfl (R1 (BI rfl) rfl) (R1 (BI rfl) rfl) (R1 (BI rfl) rfl) rfl bs3) id):A:=c b
theorem ZP(b:B)(c:B→A:=by exact k_i (by first|exact Ev.skip (fun _=>rfl)|exact Bc (k:=1) rfl (fun _=>rfl) rfl rfl underlying23 sizeOf5 (AW hv) (by omega) (by decide)) id):A:=c b
theorem TM(b:B)(c:B→A:=by exact k_i (by exact BE (c:=((4:Nat):Int)) rfl gg rfl rfl (by rw[Ah (by omega) (by omega)];omega)) id):A:=c b
theorem M6(b:B)(c:B→A:=by exact k_i (by exact BU rfl gg rfl underlying23 (AW htv)) id):A:=c b
theorem Pn(b:B)(c:B→A:=by exact k_i (by exact D8 (p:=false) rfl gg rfl rfl (decide_eq_false (by omega))) id):A:=c b
theorem Pm(b:B)(c:B→A:=by exact k_i (by exact AK rfl gg rfl rfl (fun w=>Sr (n:=z) (by omega) _ _ w)) id):A:=c b
theorem Pl(b:B)(c:B→A:=by exact k_i (by exact Bi rfl gg rfl rfl underlying61 rfl sizeOf61 rfl) id):A:=c b
theorem TL(b:B)(c:B→A:=by exact A3 (by exact AM rfl gg rfl (eo func82) (fun w' hw'=>ofN t ht w')) id):A:=c b
theorem TK(b:B)(c:B→A:=by exact A3 (by exact AM rfl gg rfl (eo func82) (fun w' hw'=>ofN r hr w')) id):A:=c b
theorem Pk(b:B)(c:B→A:=by exact k_i (by exact BV (p:=true) rfl gg rfl rfl (decide_eq_true (by omega))) id):A:=c b
theorem Pj(b:B)(c:B→A:=by exact k_i (by exact BA rfl gg rfl rfl rfl sizeOf248 rfl (by simp) rfl) id):A:=c b
theorem mn(b:B)(c:B→A:=by exact k_i (by exact BB rfl gg rfl rfl h_q1) id):A:=c b
theorem Ph(b:B)(c:B→A:=by exact k_i (by exact B1 rfl gg rfl (fun w=>pJ (P6 h8 _) w)) id):A:=c b
theorem Kz(b:B)(c:B→A:=by exact k_i (by exact BV rfl gg rfl rfl h_q') id):A:=c b
theorem TI(b:B)(c:B→A:=by exact A3 (by exact NW rfl rfl gg zeroValue64 rfl) id):A:=c b
theorem Pg(b:B)(c:B→A:=by exact k_i (by exact B1 rfl gg rfl (fun w=>pH _ w)) id):A:=c b
theorem Pf(b:B)(c:B→A:=by exact k_i (by exact B1 rfl gg rfl (fun w=>Nc hx w)) id):A:=c b
theorem k_k{P Q:Prop}(h:Q)(c:Q→P:=by
 intro h'q;first
 |(refine k_s (by first|exact Ap rfl gg|exact CJ rfl gg|exact G3 rfl rfl gg rfl|exact Cy rfl gg rfl rfl|exact C8 rfl gg rfl rfl|exact CY rfl gg rfl rfl|exact Ca rfl gg rfl rfl|exact D7 rfl gg rfl|exact IS rfl gg rfl|exact IR rfl gg rfl) ?_;exact h'q)
 |(refine k_n ⟨by kernel_rfl,?_⟩;(try change VOk _ _ _ _ _);exact h'q)
 |(refine Fl ?_;exact h'q)
 |(refine k_p ?_;exact h'q)
 |(refine k_d (by kernel_rfl) ?_;exact h'q)
 |(refine GO ?_;(try change VOk _ _ _ _ _);exact h'q)
 |(refine Hf ?_;exact h'q)
 |(refine GP rfl ?_;exact h'q)
 |(refine GQ rfl ?_;exact h'q)):P:=c h
theorem Aa{P Q:Prop}(h:Q)(c:Q→P:=by
 intro h'q;first
 |(refine AX (by first|exact Ap rfl gg|exact CJ rfl gg|exact G3 rfl rfl gg rfl|exact Cy rfl gg rfl rfl|exact C8 rfl gg rfl rfl|exact CY rfl gg rfl rfl|exact Ca rfl gg rfl rfl|exact D7 rfl gg rfl|exact IS rfl gg rfl|exact IR rfl gg rfl) ?_;exact h'q)
 |(refine k_n ⟨by kernel_rfl,?_⟩;(try change VOk _ _ _ _ _);exact h'q)
 |(refine Fl ?_;exact h'q)
 |(refine k_p ?_;exact h'q)
 |(refine k_d (by kernel_rfl) ?_;exact h'q)
 |(refine GO ?_;(try change VOk _ _ _ _ _);exact h'q)
 |(refine Hf ?_;exact h'q)
 |(refine GP rfl ?_;exact h'q)
 |(refine GQ rfl ?_;exact h'q)):P:=c h
theorem A4(b:B)(c:B→A:=by intro b;refine Q2 ?_;simp only[List.map_cons,List.map_nil];exact b):A:=c b
theorem AU(b:B)(c:B→A:=by intro b;change VOk _ _ _ _ _;refine Fl ?_;exact b):A:=c b
theorem Ch(b:B)(c:B→A:=by intro b;change VOk _ _ _ _ _;(iterate 2 refine k_k ?_);exact b):A:=c b
theorem Bz(b:B)(c:B→A:=by intro b;refine A4 ?_;(iterate 2 refine k_k ?_);exact b):A:=c b
theorem EO(b:B)(c:B→A:=by intro b;change VOk _ _ _ _ _;refine GP rfl ?_;exact b):A:=c b
theorem CN(b:B)(c:B→A:=by intro b;change VOk _ _ _ _ _;(iterate 4 refine k_k ?_);exact b):A:=c b
theorem BP(b:B)(c:B→A:=by intro b;refine AU ?_;refine Fl ?_;exact b):A:=c b
theorem Fp(b:B)(c:B→A:=by intro b;change VOk _ _ _ _ _;refine GQ rfl ?_;exact b):A:=c b
theorem Cz(b:B)(c:B→A:=by intro b;refine k_k ?_;refine k_0 ?_;exact b):A:=c b
theorem Ci(b:B)(c:B→A:=by intro b;change VOk _ _ _ _ _;refine AG ?_;exact b):A:=c b
theorem Cg(b:B)(c:B→A:=by intro b;refine A4 ?_;refine Fl ?_;exact b):A:=c b
theorem E9(b:B)(c:B→A:=by intro b;refine GO ?_;refine AU ?_;exact b):A:=c b
theorem C6(b:B)(c:B→A:=by intro b;refine A4 ?_;(iterate 8 refine k_k ?_);exact b):A:=c b
theorem FW(b:B)(c:B→A:=by intro b;refine A4 ?_;(iterate 9 refine k_k ?_);exact b):A:=c b
theorem Jy(b:B)(c:B→A:=by intro b;refine Pe ?_;(iterate 2 refine k_k ?_);exact b):A:=c b
theorem FP(b:B)(c:B→A:=by intro b;refine k_k ?_;(iterate 2 refine k_0 ?_);exact b):A:=c b
theorem Hy(b:B)(c:B→A:=by intro b;refine A4 ?_;(iterate 7 refine k_k ?_);exact b):A:=c b
theorem Cx(b:B)(c:B→A:=by intro b;refine Fp ?_;refine E9 ?_;exact b):A:=c b
theorem IG(b:B)(c:B→A:=by intro b;change VOk _ _ _ _ _;(iterate 5 refine k_k ?_);exact b):A:=c b
theorem EP(b:B)(c:B→A:=by intro b;refine k_k ?_;refine AG ?_;exact b):A:=c b
theorem mY(b:B)(c:B→A:=by intro b;refine Em ?_;(iterate 6 refine k_k ?_);exact b):A:=c b
theorem FI(b:B)(c:B→A:=by intro b;refine A4 ?_;(iterate 9 refine Aa ?_);exact b):A:=c b
theorem MD(b:B)(c:B→A:=by intro b;refine Mw ?_;refine Mz ?_;exact b):A:=c b
theorem JL(b:B)(c:B→A:=by intro b;refine mb ?_;(iterate 3 refine Aa ?_);exact b):A:=c b
theorem ZF(b:B)(c:B→A:=by intro b;change VOk _ _ _ _ _;(iterate 3 refine k_k ?_);exact b):A:=c b
theorem mX(b:B)(c:B→A:=by intro b;refine Hf ?_;refine Fl ?_;exact b):A:=c b
theorem FH(b:B)(c:B→A:=by intro b;change VOk _ _ _ _ _;refine Hf ?_;exact b):A:=c b
theorem Gs(b:B)(c:B→A:=by intro b;(iterate 2 refine TE ?_);(iterate 4 refine k_k ?_);exact b):A:=c b
theorem ET(b:B)(c:B→A:=by intro b;refine ZM ?_;refine k_0 ?_;exact b):A:=c b
theorem F6(b:B)(c:B→A:=by intro b;refine M9 ?_;(iterate 2 refine k_k ?_);exact b):A:=c b
theorem JK(b:B)(c:B→A:=by intro b;refine mo ?_;(iterate 8 refine k_k ?_);exact b):A:=c b
theorem F5(b:B)(c:B→A:=by intro b;refine k_9 ?_;(iterate 6 refine Aa ?_);exact b):A:=c b
theorem MB(b:B)(c:B→A:=by intro b;(iterate 5 refine k_k ?_);refine AG ?_;exact b):A:=c b
theorem E8(b:B)(c:B→A:=by intro b;refine Aa ?_;refine mp ?_;exact b):A:=c b
theorem Fz(b:B)(c:B→A:=by intro b;refine MD ?_;(iterate 6 refine Aa ?_);exact b):A:=c b
theorem Fy(b:B)(c:B→A:=by intro b;refine A4 ?_;(iterate 10 refine k_k ?_);exact b):A:=c b
theorem Kh(b:B)(c:B→A:=by intro b;refine k_3 ?_;(iterate 5 refine k_k ?_);exact b):A:=c b
theorem E7(b:B)(c:B→A:=by intro b;refine EO ?_;refine Fl ?_;exact b):A:=c b
theorem E5(b:B)(c:B→A:=by intro b;refine Aa ?_;refine M3 ?_;exact b):A:=c b
theorem E3(b:B)(c:B→A:=by intro b;refine k_k ?_;refine F8 ?_;exact b):A:=c b
theorem Gm(b:B)(c:B→A:=by intro b;refine M2 ?_;(iterate 8 refine Aa ?_);exact b):A:=c b
theorem Gj(b:B)(c:B→A:=by intro b;refine mf ?_;(iterate 6 refine Aa ?_);exact b):A:=c b
theorem Kf(b:B)(c:B→A:=by intro b;refine mq ?_;(iterate 2 refine Aa ?_);exact b):A:=c b
theorem Ke(b:B)(c:B→A:=by intro b;refine mg ?_;(iterate 7 refine Aa ?_);exact b):A:=c b
theorem Kd(b:B)(c:B→A:=by intro b;refine mZ ?_;(iterate 3 refine Aa ?_);exact b):A:=c b
theorem Kc(b:B)(c:B→A:=by intro b;refine me ?_;(iterate 12 refine k_k ?_);exact b):A:=c b
theorem Km(b:B)(c:B→A:=by intro b;refine IM ?_;(iterate 5 refine k_k ?_);exact b):A:=c b
theorem Kl(b:B)(c:B→A:=by intro b;refine Bz ?_;refine mY ?_;exact b):A:=c b
theorem Fo(b:B)(c:B→A:=by intro b;refine FT ?_;refine M3 ?_;exact b):A:=c b
theorem ME(b:B)(c:B→A:=by intro b;refine mn ?_;refine k_k ?_;exact b):A:=c b
theorem Fb(b:B)(c:B→A:=by intro b;refine ma ?_;refine JW ?_;exact b):A:=c b
theorem II(b:B)(c:B→A:=by intro b;refine k_9 ?_;(iterate 5 refine k_k ?_);exact b):A:=c b
theorem Mq(b:B)(c:B→A:=by intro b;refine MD ?_;(iterate 4 refine k_k ?_);exact b):A:=c b
theorem Mp(b:B)(c:B→A:=by intro b;refine k_9 ?_;refine Aa ?_;exact b):A:=c b
end Go.Proofs.YtafbhakmkbehiaaGreatDoor
