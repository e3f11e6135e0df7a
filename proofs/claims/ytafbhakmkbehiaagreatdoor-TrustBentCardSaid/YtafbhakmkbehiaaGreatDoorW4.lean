import Derived.Test.YtafbhakmkbehiaaGreatDoorW1
open Go.Proofs.Tryz
set_option maxHeartbeats 4000000
set_option maxRecDepth 100000
namespace Go.Proofs.YtafbhakmkbehiaaGreatDoor
open Go.RowKit Go.Toll
theorem ge(b:Nat)(I J K S h m r u A B C D z0 z1 z2 z3:Nat)(ng:Nat)(w:World)(hm:∀(j:Nat) (v:Value),[.int .u64 (I:Nat),.int .u64 (J:Nat),.int .u64 (K:Nat),.int .u64 (S:Nat)][j]? =some v->w.cell? ⟨b,0+j,none⟩=some v)(hn:w.cell? ⟨b,4,none⟩=some (.int .u64 (ng:Nat)))
 (mh ml T H wa:Nat->Nat->Nat)(U K1 G:Nat->Nat->Nat->Nat)(l V g:Nat->Nat->Nat->Nat->Nat)(o:Nat->Nat)(q:Nat->Prop)(R:Nat->Nat->Nat->Nat->Nat->Nat->Prop)
 (z:∀x y:Nat,q x->q y-> ∀w,CGy 172 #[.int .u64 x,.int .u64 y] w (.tuple #[.int .u64 (mh x y:Nat),.int .u64 (ml x y:Nat)]))
 (W:∀(x y t:Nat) (w:World),(callFunc 173 #[.int .u64 (ml x y:Nat),.int .u64 t,.int .u64 0]).run prog w=.ok (.value (.tuple #[.int .u64 (U x y t:Nat),.int .u64 (K1 x y t:Nat)])) w)
 (e2:∀(x y t c:Nat) (w:World),(callFunc 173 #[.int .u64 (U x y t:Nat),.int .u64 c,.int .u64 0]).run prog w=.ok (.value (.tuple #[.int .u64 (l x y t c:Nat),.int .u64 (V x y t c:Nat)])) w)
 (X:∀(x y t:Nat) (w:World),(callFunc 173 #[.int .u64 (U x y t:Nat),.int .u64 0,.int .u64 0]).run prog w=.ok (.value (.tuple #[.int .u64 (l x y t 0:Nat),.int .u64 (V x y t 0:Nat)])) w)
 (e3:∀(t c:Nat) (w:World),(callFunc 173 #[.int .u64 t,.int .u64 c,.int .u64 0]).run prog w=.ok (.value (.tuple #[.int .u64 (T t c:Nat),.int .u64 (H t c:Nat)])) w)
 (g1:∀x y t:Nat,IntKind.u64.wrap ((mh x y:Nat)+(K1 x y t:Nat))=(G x y t:Nat))
 (g2:∀x y t c:Nat,IntKind.u64.wrap ((G x y t:Nat)+(V x y t c:Nat))=(g x y t c:Nat))
 (g3:∀a c d e:Nat,IntKind.u64.wrap ((H a c:Nat)+(H d e:Nat))=(wa (H a c) (H d e):Nat))
 (g4:∀t:Nat,IntKind.u64.wrap ((t:Nat)*(ng:Nat))=(o t:Nat))
 (wq:∀t,q (o t))(a9:q h)(b0:q m)(b1:q r)(b2:q u)(b3:q A)(b4:q B)(b5:q C)(b6:q D)(a7:q I)(b7:q J)(b8:q K)(b9:q S)
 (Y:R 0 0 0 0 0 0)
 (hR:∀k x t0 t1 t2 t3 t4,k<4->[A,B,C,D][k]? =some x->R k t0 t1 t2 t3 t4->R (k+1) (l (o (l x h t0 0)) J (l x m t1 (g x h t0 0)) (G (o (l x h t0 0)) I (l x h t0 0))) (l (o (l x h t0 0)) K (l x r t2 (g x m t1 (g x h t0 0))) (g (o (l x h t0 0)) J (l x m t1 (g x h t0 0)) (G (o (l x h t0 0)) I (l x h t0 0)))) (l (o (l x h t0 0)) S (l x u t3 (g x r t2 (g x m t1 (g x h t0 0)))) (g (o (l x h t0 0)) K (l x r t2 (g x m t1 (g x h t0 0))) (g (o (l x h t0 0)) J (l x m t1 (g x h t0 0)) (G (o (l x h t0 0)) I (l x h t0 0))))) (T (T t4 (g x u t3 (g x r t2 (g x m t1 (g x h t0 0))))) (g (o (l x h t0 0)) S (l x u t3 (g x r t2 (g x m t1 (g x h t0 0)))) (g (o (l x h t0 0)) K (l x r t2 (g x m t1 (g x h t0 0))) (g (o (l x h t0 0)) J (l x m t1 (g x h t0 0)) (G (o (l x h t0 0)) I (l x h t0 0)))))) (wa (H t4 (g x u t3 (g x r t2 (g x m t1 (g x h t0 0))))) (H (T t4 (g x u t3 (g x r t2 (g x m t1 (g x h t0 0))))) (g (o (l x h t0 0)) S (l x u t3 (g x r t2 (g x m t1 (g x h t0 0)))) (g (o (l x h t0 0)) K (l x r t2 (g x m t1 (g x h t0 0))) (g (o (l x h t0 0)) J (l x m t1 (g x h t0 0)) (G (o (l x h t0 0)) I (l x h t0 0))))))))
 (a4:∀t0 t1 t2 t3 t4,R 4 t0 t1 t2 t3 t4-> ∀w',Gw w w'->CGy 160 #[.pointer (some ⟨b,0,none⟩),.agg #[.int .u64 t0,.int .u64 t1,.int .u64 t2,.int .u64 t3],.int .u64 t4] w' (A4y z0 z1 z2 z3)):
 CGy 131 #[.pointer (some ⟨b,0,none⟩),A4y h m r u,A4y A B C D] w (A4y z0 z1 z2 z3):=by
 go_enter func131,ntmps131
 refine E8 ?_
 refine HR ?_
 refine n9 (by exact BZ rfl rfl gg zeroValue244) ?_;iterate 4 refine iN ?_
 refine t_3 ?_;iterate 3 refine iN ?_
 refine Ii (λn s=> ∃(k t0 t1 t2 t3 t4 t5:Nat),n+k=4/\R k t0 t1 t2 t3 t4/\s.fr=[.v (.pointer (some ⟨b,0,none⟩)),.v (A4y h m r u),.v (A4y A B C D),.v undef,.p 4 0,.p 5 0,.p 6 0,.p 7 0,s.fr.getD 8 default,s.fr.getD 9 default,s.fr.getD 10 default,s.fr.getD 11 default,s.fr.getD 12 default,s.fr.getD 13 default,s.fr.getD 14 default,s.fr.getD 15 default,s.fr.getD 16 default,s.fr.getD 17 default,s.fr.getD 18 default,s.fr.getD 19 default,s.fr.getD 20 default,.v (A4y A B C D),.v (.int .i64 (k:Nat)),s.fr.getD 23 default,s.fr.getD 24 default,s.fr.getD 25 default,s.fr.getD 26 default,s.fr.getD 27 default,s.fr.getD 28 default,s.fr.getD 29 default,s.fr.getD 30 default,s.fr.getD 31 default,s.fr.getD 32 default,s.fr.getD 33 default,s.fr.getD 34 default,s.fr.getD 35 default,s.fr.getD 36 default,s.fr.getD 37 default,s.fr.getD 38 default,s.fr.getD 39 default,s.fr.getD 40 default,s.fr.getD 41 default,s.fr.getD 42 default,s.fr.getD 43 default,s.fr.getD 44 default,s.fr.getD 45 default,s.fr.getD 46 default,s.fr.getD 47 default,s.fr.getD 48 default,s.fr.getD 49 default,s.fr.getD 50 default,s.fr.getD 51 default,s.fr.getD 52 default,s.fr.getD 53 default,s.fr.getD 54 default,s.fr.getD 55 default,s.fr.getD 56 default,s.fr.getD 57 default,s.fr.getD 58 default,s.fr.getD 59 default,s.fr.getD 60 default,s.fr.getD 61 default,s.fr.getD 62 default,s.fr.getD 63 default,s.fr.getD 64 default,s.fr.getD 65 default,s.fr.getD 66 default,s.fr.getD 67 default,s.fr.getD 68 default,s.fr.getD 69 default,s.fr.getD 70 default,s.fr.getD 71 default,s.fr.getD 72 default,s.fr.getD 73 default,s.fr.getD 74 default,s.fr.getD 75 default,s.fr.getD 76 default,s.fr.getD 77 default,s.fr.getD 78 default,s.fr.getD 79 default,s.fr.getD 80 default,s.fr.getD 81 default,s.fr.getD 82 default,s.fr.getD 83 default,s.fr.getD 84 default,s.fr.getD 85 default,s.fr.getD 86 default,s.fr.getD 87 default,s.fr.getD 88 default,s.fr.getD 89 default,s.fr.getD 90 default,s.fr.getD 91 default,s.fr.getD 92 default,s.fr.getD 93 default,s.fr.getD 94 default,s.fr.getD 95 default,s.fr.getD 96 default,s.fr.getD 97 default,s.fr.getD 98 default,s.fr.getD 99 default,s.fr.getD 100 default,s.fr.getD 101 default,s.fr.getD 102 default,s.fr.getD 103 default,s.fr.getD 104 default,s.fr.getD 105 default,s.fr.getD 106 default,s.fr.getD 107 default,s.fr.getD 108 default,s.fr.getD 109 default,s.fr.getD 110 default,s.fr.getD 111 default,s.fr.getD 112 default,s.fr.getD 113 default,s.fr.getD 114 default,s.fr.getD 115 default,s.fr.getD 116 default,s.fr.getD 117 default,s.fr.getD 118 default,s.fr.getD 119 default,s.fr.getD 120 default,s.fr.getD 121 default,s.fr.getD 122 default,s.fr.getD 123 default,s.fr.getD 124 default,s.fr.getD 125 default,s.fr.getD 126 default,s.fr.getD 127 default,s.fr.getD 128 default,s.fr.getD 129 default,s.fr.getD 130 default,s.fr.getD 131 default,s.fr.getD 132 default,s.fr.getD 133 default,s.fr.getD 134 default,s.fr.getD 135 default,s.fr.getD 136 default,s.fr.getD 137 default,s.fr.getD 138 default,s.fr.getD 139 default,s.fr.getD 140 default,s.fr.getD 141 default,s.fr.getD 142 default,s.fr.getD 143 default,s.fr.getD 144 default,s.fr.getD 145 default,s.fr.getD 146 default,s.fr.getD 147 default,s.fr.getD 148 default,s.fr.getD 149 default,s.fr.getD 150 default,s.fr.getD 151 default,s.fr.getD 152 default,s.fr.getD 153 default,s.fr.getD 154 default,s.fr.getD 155 default,s.fr.getD 156 default]/\s.mem=AJ [(7,([.v (.int .u64 (t0:Nat)),.v (.int .u64 (t1:Nat)),.v (.int .u64 (t2:Nat)),.v (.int .u64 (t3:Nat)),.v (.int .u64 (t4:Nat)),.v (.int .u64 (t5:Nat))],244)),(6,([.v (.int .u64 0),.v (.int .u64 0),.v (.int .u64 0),.v (.int .u64 0)],147)),(5,([.v (.int .u64 (A:Nat)),.v (.int .u64 (B:Nat)),.v (.int .u64 (C:Nat)),.v (.int .u64 (D:Nat))],147)),(4,([.v (.int .u64 (h:Nat)),.v (.int .u64 (m:Nat)),.v (.int .u64 (r:Nat)),.v (.int .u64 (u:Nat))],147))]) ?_ 4 ?_;rotate_left
 .exact⟨0,0,0,0,0,0,0,rfl,Y,rfl,rfl⟩
 rintro n ⟨fr,mm⟩ ⟨k,t0,t1,t2,t3,t4,t5,a8,L,O,P⟩;obtain⟨f,hf⟩:∃f:Nat->SV,fr=[.v (.pointer (some ⟨b,0,none⟩)),.v (A4y h m r u),.v (A4y A B C D),.v undef,.p 4 0,.p 5 0,.p 6 0,.p 7 0,f 8,f 9,f 10,f 11,f 12,f 13,f 14,f 15,f 16,f 17,f 18,f 19,f 20,.v (A4y A B C D),.v (.int .i64 (k:Nat)),f 23,f 24,f 25,f 26,f 27,f 28,f 29,f 30,f 31,f 32,f 33,f 34,f 35,f 36,f 37,f 38,f 39,f 40,f 41,f 42,f 43,f 44,f 45,f 46,f 47,f 48,f 49,f 50,f 51,f 52,f 53,f 54,f 55,f 56,f 57,f 58,f 59,f 60,f 61,f 62,f 63,f 64,f 65,f 66,f 67,f 68,f 69,f 70,f 71,f 72,f 73,f 74,f 75,f 76,f 77,f 78,f 79,f 80,f 81,f 82,f 83,f 84,f 85,f 86,f 87,f 88,f 89,f 90,f 91,f 92,f 93,f 94,f 95,f 96,f 97,f 98,f 99,f 100,f 101,f 102,f 103,f 104,f 105,f 106,f 107,f 108,f 109,f 110,f 111,f 112,f 113,f 114,f 115,f 116,f 117,f 118,f 119,f 120,f 121,f 122,f 123,f 124,f 125,f 126,f 127,f 128,f 129,f 130,f 131,f 132,f 133,f 134,f 135,f 136,f 137,f 138,f 139,f 140,f 141,f 142,f 143,f 144,f 145,f 146,f 147,f 148,f 149,f 150,f 151,f 152,f 153,f 154,f 155,f 156]:=⟨λi=>fr.getD i default,O⟩
 clear O;simp only at P;subst hf P;by_cases F:k<4
 .have E:k=0\/k=1\/k=2\/k=3:=by omega
  obtain⟨x,Q⟩:∃x,[A,B,C,D][k]? =some x:=⟨_,zK (by simpa using F)⟩
  have a5:q x:=by rcases E with rfl|rfl|rfl|rfl<;>(simp at Q;subst Q;assumption)
  have a6:[Value.int .u64 (A:Nat),Value.int .u64 (B:Nat),Value.int .u64 (C:Nat),Value.int .u64 (D:Nat)][k]? =some (Value.int .u64 (x:Nat)):=by rcases E with rfl|rfl|rfl|rfl<;>(simp at Q;subst Q;rfl)
  have Z:=hR k x t0 t1 t2 t3 t4 F Q L;have N:decide ((k:Int)<4)=true:=yE (by omega);have M:∀k:Nat,k<4->IntKind.i64.wrap ((k:Int)+1)=((k+1:Nat):Int):=λk hk=>by rw[Ah (by omega) (by omega)];omega
  iterate 2 refine iN ?_
  refine n9 (by exact BM rfl gg rfl rfl N) ?_;iterate 8 refine iN ?_
  refine n9 (by exact Tt rfl gg rfl rfl y8 zF zN rfl F a6) ?_;iterate 9 refine iN ?_
  refine t_3 ?_;iterate 3 refine iN ?_
  refine Br 5 ?_
  iterate 4
   refine BP ?_
   refine t_1 ?_;iterate 9 refine iN ?_
   refine JM ?_
   refine n9 (by exact AM rfl gg rfl (eo func172) (λw _=>z _ _ a5 (by assumption) w)) ?_;iterate 14 refine iN ?_
   refine EG ?_;refine t_4 ?_;refine n9 (by exact G1 rfl gg rfl (by intro w;first|exact W _ _ _ w)) ?_;iterate 10 refine iN ?_
   refine Bv ?_
   refine n9 (by exact G1 rfl gg rfl (by intro w;first|exact X _ _ _ w|exact e2 _ _ _ _ w)) ?_;iterate 11 refine iN ?_
   refine t_1 ?_;refine EG ?_;refine Hj ?_
   refine Dx ?_
  refine BP ?_
  refine FB ?_
  refine As ?_;change VOk _ _ _ _ _;iterate 6 refine iN ?_
  refine EG ?_;refine t_4 ?_;refine iN ?_;refine n9 (by exact G1 rfl gg rfl (by intro w;first|exact e3 _ _ w)) ?_;iterate 3 refine iN ?_
  refine EG ?_;refine GX ?_;iterate 5 refine iN ?_
  refine EG ?_;refine Hj ?_
  refine EG ?_;refine t_4 ?_;iterate 2 refine iN ?_
  refine n9 (by first|exact BG rfl gg rfl underlying199 rfl zF|exact BF rfl gg rfl underlying199 rfl zF) ?_;refine n9 (by exact BR rfl gg rfl zN rfl hn) ?_;refine JM ?_
  refine Ec ?_;refine t_8 ?_;refine t_4 ?_;refine n9 (by exact AM rfl gg rfl (eo func172) (λw _=>z _ _ (wq _) a7 w)) ?_;iterate 9 refine iN ?_
  refine EG ?_;refine t_4 ?_;refine n9 (by exact G1 rfl gg rfl (by intro w;first|exact W _ _ _ w)) ?_;iterate 9 refine iN ?_
  refine ET ?_
  refine Br 4 ?_
  iterate 3
   refine C3 ?_
   refine t_1 ?_;iterate 11 refine iN ?_
   refine Ec ?_;refine t_8 ?_;refine t_4 ?_;refine n9 (by exact AM rfl gg rfl (eo func172) (λw _=>z _ _ (wq _) (by assumption) w)) ?_;iterate 10 refine iN ?_
   refine EG ?_;refine t_4 ?_;refine n9 (by exact G1 rfl gg rfl (by intro w;first|exact W _ _ _ w)) ?_;iterate 10 refine iN ?_
   refine Bv ?_
   refine n9 (by exact G1 rfl gg rfl (by intro w;first|exact e2 _ _ _ _ w)) ?_;iterate 8 refine iN ?_
   refine FB ?_
   refine t_1 ?_;refine EG ?_;refine GX ?_;iterate 4 refine iN ?_
   refine Dx ?_
  refine C3 ?_
  refine Dx ?_
  refine As ?_;refine BP ?_
  refine EG ?_;refine t_4 ?_;refine iN ?_;refine n9 (by exact G1 rfl gg rfl (by intro w;first|exact e3 _ _ w)) ?_;iterate 3 refine iN ?_
  refine EG ?_;refine Hj ?_
  refine EG ?_;refine t_4 ?_;refine iN ?_;refine t_1 ?_;refine EG ?_;refine GX ?_;iterate 2 refine iN ?_
  refine n9 (by exact BE rfl gg rfl rfl (M k F)) ?_;iterate 2 refine iN ?_
  exact⟨n-1,by omega,k+1,_,_,_,_,_,_,by omega,Z,rfl,rfl⟩
 .have E:k=4:=by omega
  subst E;iterate 2 refine iN ?_
  refine n9 (by exact BM (p:=false) rfl gg rfl rfl (by decide)) ?_;iterate 3 refine iN ?_
  refine As ?_;change VOk _ _ _ _ _;iterate 3 refine iN ?_
  refine n9 (by exact oE rfl gg rfl rfl underlying244 zF (by decide)) ?_;refine n9 (by exact NV rfl gg rfl y8 (by decide)) ?_;refine t_3 ?_;refine EG ?_;refine t_4 ?_;refine n9 (by exact AM rfl gg rfl (eo func160) (a4 _ _ _ _ _ L)) ?_;refine Cw ?_;refine AD (AH results131 (Ac rfl rfl y8 rfl zD rfl rfl)) ?_;intro w' hg;exact⟨rfl,hg⟩
theorem lE(a:Nat->Nat->Nat)(d:Nat->Nat)(c:Nat->Int->Nat)(J K L M N O P Q R S e f g h i j k l m n o r t u v z A B C D E F:Nat)(w:World)
 (H:∀(x:Nat) (w:World),(convert 5 49 (.int .u8 (x:Nat))).run prog w=.ok (.int .u64 (d x:Nat)) w)
 (I:∀(x y:Nat) (p q:Operand) (w:World),(do eqGuard .or 49 p q (.int .u64 (x:Nat)) (.int .u64 (y:Nat));binOp .or 49 (.int .u64 (x:Nat)) (.int .u64 (y:Nat)):Sem Value).run prog w=.ok (.int .u64 (a x y:Nat)) w)
 (_hor0:∀(y:Nat) (p q:Operand) (w:World),(do eqGuard .or 49 p q (.int .u64 0) (.int .u64 (y:Nat));binOp .or 49 (.int .u64 0) (.int .u64 (y:Nat)):Sem Value).run prog w=.ok (.int .u64 (a 0 y:Nat)) w)
 (G:∀(x:Nat) (s:Int) (_:0<=s) (_:s<64) (p q:Operand) (w:World),(do eqGuard .shl 49 p q (.int .u64 (x:Nat)) (.int .i64 s);binOp .shl 49 (.int .u64 (x:Nat)) (.int .i64 s):Sem Value).run prog w=.ok (.int .u64 (c x s:Nat)) w):
 CGy 82 #[.agg #[.int .u8 (J:Nat),.int .u8 (K:Nat),.int .u8 (L:Nat),.int .u8 (M:Nat),.int .u8 (N:Nat),.int .u8 (O:Nat),.int .u8 (P:Nat),.int .u8 (Q:Nat),.int .u8 (R:Nat),.int .u8 (S:Nat),.int .u8 (e:Nat),.int .u8 (f:Nat),.int .u8 (g:Nat),.int .u8 (h:Nat),.int .u8 (i:Nat),.int .u8 (j:Nat),.int .u8 (k:Nat),.int .u8 (l:Nat),.int .u8 (m:Nat),.int .u8 (n:Nat),.int .u8 (o:Nat),.int .u8 (r:Nat),.int .u8 (t:Nat),.int .u8 (u:Nat),.int .u8 (v:Nat),.int .u8 (z:Nat),.int .u8 (A:Nat),.int .u8 (B:Nat),.int .u8 (C:Nat),.int .u8 (D:Nat),.int .u8 (E:Nat),.int .u8 (F:Nat)]] w (.agg #[.int .u64 ((a (a (a (a (a (a (a (a 0 (c (d v) 56)) (c (d z) 48)) (c (d A) 40)) (c (d B) 32)) (c (d C) 24)) (c (d D) 16)) (c (d E) 8)) (c (d F) 0)):Nat),.int .u64 ((a (a (a (a (a (a (a (a 0 (c (d k) 56)) (c (d l) 48)) (c (d m) 40)) (c (d n) 32)) (c (d o) 24)) (c (d r) 16)) (c (d t) 8)) (c (d u) 0)):Nat),.int .u64 ((a (a (a (a (a (a (a (a 0 (c (d R) 56)) (c (d S) 48)) (c (d e) 40)) (c (d f) 32)) (c (d g) 24)) (c (d h) 16)) (c (d i) 8)) (c (d j) 0)):Nat),.int .u64 ((a (a (a (a (a (a (a (a 0 (c (d J) 56)) (c (d K) 48)) (c (d L) 40)) (c (d M) 32)) (c (d N) 24)) (c (d O) 16)) (c (d P) 8)) (c (d Q) 0)):Nat)]):=by
 go_enter zZ,ntmps82
 refine C0 ?_
 refine HR ?_
 refine J2 ?_
 refine VY ?_;iterate 3 refine iN ?_
 refine Br 33 ?_
 iterate 32
  refine BP ?_
  refine t_1 ?_;iterate 9 refine iN ?_
  refine Fo ?_
  iterate 2 refine t_1 ?_
  refine t_8 ?_;refine t_4 ?_;refine iN ?_;refine n9 (by exact B1 rfl gg rfl (λw=>H _ w)) ?_;refine iN ?_;iterate 3 refine t_1 ?_
  refine n9 (by exact AK rfl gg rfl rfl (λw=>G _ _ (by decide) (by decide) _ _ w)) ?_;refine n9 (by first|exact AK rfl gg rfl rfl (λw=>I _ _ _ _ w)|exact AK rfl gg rfl rfl (λw=>hor0 _ _ _ w)) ?_;refine t_8 ?_;refine GX ?_;iterate 2 refine iN ?_
  refine Dx ?_
 refine BP ?_
 refine FB ?_
 refine As ?_;refine BP ?_
 refine t_3 ?_;refine Cw ?_;refine AD (AH results82 (Ac rfl rfl y8 rfl zD rfl rfl)) ?_;intro U T;exact⟨rfl,T⟩
theorem gd(c:Nat->Nat->Nat)(d:Nat->Nat)(a:Nat->Nat)(I J K L M N O P Q R e f g h i j k l m n o r s t u v z A B C D E:Nat)(w:World)
 (G:∀(x:Nat) (w:World),(convert 5 49 (.int .u8 (x:Nat))).run prog w=.ok (.int .u64 (d x:Nat)) w)
 (H:∀(x y:Nat) (p q:Operand) (w:World),(do eqGuard .or 49 p q (.int .u64 (x:Nat)) (.int .u64 (y:Nat));binOp .or 49 (.int .u64 (x:Nat)) (.int .u64 (y:Nat)):Sem Value).run prog w=.ok (.int .u64 (c x y:Nat)) w)
 (F:∀(x:Nat) (p q:Operand) (w:World),(do eqGuard .shl 49 p q (.int .u64 (x:Nat)) (.int .u64 8);binOp .shl 49 (.int .u64 (x:Nat)) (.int .u64 8):Sem Value).run prog w=.ok (.int .u64 (a x:Nat)) w)
 (_hshl0:∀(p q:Operand) (w:World),(do eqGuard .shl 49 p q (.int .u64 0) (.int .u64 8);binOp .shl 49 (.int .u64 0) (.int .u64 8):Sem Value).run prog w=.ok (.int .u64 (a 0:Nat)) w):
 CGy 112 #[.agg #[.int .u8 (I:Nat),.int .u8 (J:Nat),.int .u8 (K:Nat),.int .u8 (L:Nat),.int .u8 (M:Nat),.int .u8 (N:Nat),.int .u8 (O:Nat),.int .u8 (P:Nat),.int .u8 (Q:Nat),.int .u8 (R:Nat),.int .u8 (e:Nat),.int .u8 (f:Nat),.int .u8 (g:Nat),.int .u8 (h:Nat),.int .u8 (i:Nat),.int .u8 (j:Nat),.int .u8 (k:Nat),.int .u8 (l:Nat),.int .u8 (m:Nat),.int .u8 (n:Nat),.int .u8 (o:Nat),.int .u8 (r:Nat),.int .u8 (s:Nat),.int .u8 (t:Nat),.int .u8 (u:Nat),.int .u8 (v:Nat),.int .u8 (z:Nat),.int .u8 (A:Nat),.int .u8 (B:Nat),.int .u8 (C:Nat),.int .u8 (D:Nat),.int .u8 (E:Nat)]] w (.agg #[.int .u64 ((c (a (c (a (c (a (c (a (c (a (c (a (c (a (c (a 0) (d u))) (d v))) (d z))) (d A))) (d B))) (d C))) (d D))) (d E)):Nat),.int .u64 ((c (a (c (a (c (a (c (a (c (a (c (a (c (a (c (a 0) (d k))) (d l))) (d m))) (d n))) (d o))) (d r))) (d s))) (d t)):Nat),.int .u64 ((c (a (c (a (c (a (c (a (c (a (c (a (c (a (c (a 0) (d Q))) (d R))) (d e))) (d f))) (d g))) (d h))) (d i))) (d j)):Nat),.int .u64 ((c (a (c (a (c (a (c (a (c (a (c (a (c (a (c (a 0) (d I))) (d J))) (d K))) (d L))) (d M))) (d N))) (d O))) (d P)):Nat)]):=by
 go_enter func112,ntmps112
 refine C0 ?_
 refine E9 ?_
 refine Fs ?_;iterate 7 refine iN ?_
 refine Br 33 ?_
 iterate 32
  refine C3 ?_
  refine JM ?_
  iterate 2 refine t_1 ?_
  refine iN ?_;iterate 2 refine t_1 ?_
  refine DF ?_;refine t_4 ?_;refine n9 (by first|exact AK rfl gg rfl rfl (λw=>F _ _ _ w)|exact AK rfl gg rfl rfl (λw=>hshl0 _ _ w)) ?_;refine iN ?_;refine VZ ?_;refine n9 (by first|exact BK rfl gg rfl rfl yL rfl rfl|exact BR rfl gg rfl yL rfl (by first|assumption|exact hm 0 _ rfl|exact hm 1 _ rfl|exact hm 2 _ rfl|exact hm 3 _ rfl)) ?_;refine n9 (by exact B1 rfl gg rfl (λw=>G _ w)) ?_;refine n9 (by exact AK rfl gg rfl rfl (λw=>H _ _ _ _ w)) ?_;refine DF ?_;refine Hj ?_
  refine Dx ?_
 refine C3 ?_
 refine Dx ?_
 refine As ?_;refine BP ?_
 refine t_5 ?_;refine Hl ?_;refine AD (AH results112 (Ac rfl rfl underlying146 rfl sizeOf146 rfl rfl)) ?_;intro T S;exact⟨rfl,S⟩
end Go.Proofs.YtafbhakmkbehiaaGreatDoor
