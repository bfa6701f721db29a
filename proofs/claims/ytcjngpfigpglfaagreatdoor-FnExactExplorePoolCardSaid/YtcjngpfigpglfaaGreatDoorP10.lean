import Derived.Test.YtcjngpfigpglfaaGreatDoorP09
set_option maxHeartbeats 0
set_option maxRecDepth 100000
set_option linter.all false
namespace Go.Proofs.YtcjngpfigpglfaaGreatDoor
open Go.RowKit Go.Proofs.Tryz
open Go.Value renaming int->I,slice->A
open Go.IntKind renaming i64->Z
open Option renaming none->N,some->R
open OC(oC)
open OR(oR)
open JN(jN)
open Bool renaming false->Bm,true->Bn,and_eq_false_iff->Hk,not_false->Hr
open Go renaming World->Bh,heap_alloc_new->Bg,maxLen->Bu,info_parts->Ck
open Go.Addr.mk renaming injEq->Cq
open Go.Ending renaming returned->Dt
open List renaming length_cons->Br,not_mem_nil->Cs,nil_append->Bs,nodup_nil->Gq,drop_eq_nil_of_le->Ey
open Nat renaming reduceAdd->Bj,zero_mul->Dm,one_mul->Ia,add_zero->Cw,zero_add->Cg,add_assoc->Hp,mul_one->Cc,le_of_lt->Fu,le_succ->Ii
open Option.some renaming injEq->Bt
theorem Qn.trans{C w w' E S S' pb B m F l l'}(h:Qn C E pb B w m S l)(k:Qn w S pb B w' F S' l'):Qn C E pb B w' F S' l':=
 h.step k.mem k.free k.fresh k.fr k.keep
theorem Yp.lo{B:Bh}{w1 w S v xs}(h:Yp w1 S w v xs)(E:B.heap.size<=w1):Yp B S w v xs:=
 let ⟨F,o,n,r⟩:=h;⟨F,o,n,λb C=>⟨Au E (r b C).1,(r b C).2⟩⟩
def Q5p.box{w:Bh}{w1 T}{k l v:Int}{d:List Int}{ws:List Wd}{E F H J}(K:Qy7 Q4 w w1 [k,l,v,A E d H,A F ws J] (k,l,v,d,ws))(B:Below w w w1):
  ∃G,Q5p Q4 (w1.alloc (.cells #[k,l,v,A E d H,A F ws J] T)) w1 0 (k,l,v,d,ws) G/\∀b∈w1.heap.size::G,w<=b:=by
 obtain⟨G,o,n,r⟩:=K;refine⟨G,⟨_,rfl,Q1n (Q6 (Bg w1 _) rfl) (Q6 (Bg w1 _) rfl) (Q6 (Bg w1 _) rfl) (Q6 (Bg w1 _) rfl) (Q6 (Bg w1 _) rfl),o.kept λb B=>Az _ _ _ (r b B).2,by simp⟩,λb C=> ?_⟩;rcases Aq.1 C with rfl|C
 ·exact B.size
 exact(r b C).1
theorem Qv6(w){bv}(bk pb po m S)(h:Zh w pb po m S)(k)(a b:Int)(l)(hl:Yq m l)(EO:0<=a)(ha:a<(mC m))(EP:0<=b)(hb:b<(mC m).length)(CH:a≠b)(CI:a.toNat∉l)(CJ:b.toNat∉l)(E:k≠7)(CK:Qi9 k (Q7 (mC m) a) (Q7 (mC m) b) l)(hz:((aD (Q7 (mC m) a)).length<=1000/\(aW (Q7 (mC m) a)).length<=1000)/\((aD (Q7 (mC m) b)).length<=1000/\(aW (Q7 (mC m) b)).length<=1000))(hX:(mX m).length<=1000000):
  Calls prog 227 #[bv,.pointer (R ⟨pb,po,N⟩),I Z k,I Z a,I Z b] w λe w'=>∃U S' l',e=.returned U/\Qn w S pb po w' (Yz bk m k a b).1 S' l'/\Yp w S' w' U (Yz bk m k a b).2:=by
 have EQ:=qh (Qn.start h hl);have ER:a.toNat<(mC m):=by omega
 have ES:b.toNat<(mC m):=by omega
 obtain⟨us,CL,CM,CN⟩:=h.cell ER;obtain⟨ut,CO,CP,CQ⟩:=h.cell ES;have CR:=D (At Q4 w S.cb (S.o+a.toNat * 5) (Q7 (mC m) a)) (⟨us,CL,CM,CN.rd⟩);have CS:=D (At Q4 w S.cb (S.o+b.toNat * 5) (Q7 (mC m) b)) (⟨ut,CO,CP,CQ.rd⟩);obtain⟨_,_,c0,-,-,-,-,-,-,-,-⟩:=h.head;have CT:=h.cells.bound;unfold Bu at CT;obtain⟨FR,FT⟩:=CT;have AG:=qh (Qc7 bk m k a b E);have FU:(k==7)=Bm:=by simpa using E
 generalize Q7 (mC m) a=x at *
 generalize Q7 (mC m) b=y at *
 obtain⟨kx,lx,L,dx,A4⟩:=x;obtain⟨ky,s,J,dy,C⟩:=y;simp only[aD,aW]at hz;have HZ:=qh hz;have AV:=qh CK;have BT:=D (pb<w/\S.cb<w) (⟨h.lt pb Ae,h.lt S.cb (Aa _ Ae)⟩);have BF:=qh h.lt;have FV:=h.blk.lt;have FW:=h.cells.blk.lt;have ET:=qh CH;have EU:=qh CI;have EV:=qh CJ;clear h hl CL CM CN CO CP CQ CK hz E CH CI CJ;go_enter func227,ntmps227;go_upto_region 2 with(first|((go_at_call 182;(with_reducible refine(Q4w kx lx L dx A4 CR (by have:=HZ.o;omega) (by have:=HZ.o;omega)).mono ?_);rintro e w1 ⟨vs,rfl,hn,hb⟩;obtain⟨BU,BV,BW,BX,rfl⟩:=hn.agentShape;have CU:=qh hn;have AW:=qh hb;clear hn hb)))
 have CV:=qh (Q5p.box (T:=172) CU AW);have BG:=D (Below w w (w1.alloc (.cells #[I Z kx,I Z lx,I Z L,A BU dx BV,A BW A4 BX] 172))) (AW.o.alloc AW.o.size _);have FX:=AW.o.size;have AN:w1.heap.size<(w1.alloc (.cells #[I Z kx,I Z lx,I Z L,A BU dx BV,A BW A4 BX] 172)).heap.size:=by simp
 generalize w1.alloc (.cells #[I Z kx,I Z lx,I Z L,A BU dx BV,A BW A4 BX] 172)=W2 at *
 have EW:=jC BG c0;clear CU;go_upto_region 3 with(first|((go_at_call 182;(with_reducible refine(Q4w ky s J dy C (CS.o.kb BG) (by have:=HZ.o;omega) (by have:=HZ.o;omega)).mono ?_);rintro e O ⟨vs,rfl,hn,hb⟩;obtain⟨CW,CX,CY,CZ,rfl⟩:=hn.agentShape;have D0:=qh hn;have AX:=qh hb;clear hn hb)))
 have D1:=qh (Q5p.box (T:=172) D0 AX);have BY:=D (Below W2 W2 (O.alloc (.cells #[I Z ky,I Z s,I Z J,A CW dy CX,A CY C CZ] 172))) (AX.o.alloc AX.o.size _);have EX:=AX.o.size;generalize O.alloc (.cells #[I Z ky,I Z s,I Z J,A CW dy CX,A CY C CZ] 172)=W4 at *
 have D2:=qh (EQ.o.below (BG.o.trans (BY.o.mono (by omega))));have BZ:=D (b<(mC (Qd m a)).length/\b.toNat∉a.toNat::l) (⟨by rw[Za];exact hb,by simp only[List.mem_cons,not_or];exact⟨λe=>ET.o (by omega),EV.o⟩⟩);clear D0 c0 EW;go_upto_region 11 with(first|((go_at_call 219;(with_reducible refine(Q9r D2 a EO ha EU).mono ?_);rintro e w5 ⟨rfl,hs,M⟩;have D3:=qh hs;have C0:=qh M;clear hs M))|((go_at_call 219;(with_reducible refine(Q9r D3 b EP BZ.o.1 BZ.o.2).mono ?_);rintro e P ⟨rfl,hs,M⟩;have C1:=qh hs;have C2:=qh M;clear hs M)))
 have BH:=D (∃G,Q5p Q4 (P.alloc (.cells #[] 146)) w1 0 (kx,lx,L,dx,A4) G/\∀b∈w1.heap.size::G,w<=b/\b<P.heap.size) (by obtain⟨G,o,r⟩:=CV.o;have o6:=o.frame (X:=λc=>c=pb\/c=S.cb) ((Ay BY).trans (C0.o.trans C2)) (λc E e=>by have:=r c E;have:=BT.o;omega);exact⟨G,o6.frame (X:=λ_=>False) ((Q1.refl _ _).alloc _) (λ_ _ h=>h),λc E=>⟨by have:=r c E;omega,o6.lt c E⟩⟩);have AY:=D (∃G,Q5p Q4 (P.alloc (.cells #[] 146)) O 0 (ky,s,J,dy,C) G/\∀b∈O.heap.size::G,w<=b/\b<P.heap.size) (by obtain⟨G,o,r⟩:=D1.o;have o6:=o.frame (X:=λc=>c=pb\/c=S.cb) (C0.o.trans C2) (λc E e=>by have:=r c E;have:=BT.o;omega);exact⟨G,o6.frame (X:=λ_=>False) ((Q1.refl _ _).alloc _) (λ_ _ h=>h),λc E=>⟨by have:=r c E;omega,o6.lt c E⟩⟩);have D4:=D (Below P P (P.alloc (.cells #[] 146))) (by go_grown);have Y:=qh (C1.o.below D4);have EY:=qh (Q0d (t:=Z7) (T:=146) P P rfl rfl);have AH:=D (∀c∈pb::((S.put a []).put b []).all,c<w.heap.size) (λc E=>by
  rcases Aq.1 E with rfl|E
  ·exact BT.o.1
  rcases Y0 E with h|h
  ·simp at h
  rcases Y0 h with h|h
  ·simp at h
  exact BF.o c (Aa _ h))
 have FY:P.heap.size<(P.alloc (.cells #[] 146)).heap.size:=by simp
 have EZ:w.heap.size<=P:=C1.o.fr.size;have FZ:=D ((a.toNat:Int)=a/\(b.toNat:Int)=b) (⟨by omega,by omega⟩);have D5:=D ((mC (Qd (Qd m a) b)).length=(mC m)) (by rw[Za,Za]);have F0:=D ((mX (Qd (Qd m a) b)).length<=1000000) (hX);clear CV D1 BG BY C0 C2 D3 C1 D4 CR CS BZ D2 hX EX AW AX BF;generalize Qd (Qd m a) b=m2 at *
 generalize (S.put a []).put b []=S2 at *
 generalize P.alloc (.cells #[] 146)=W7 at *
 by_cases q3:k=3
 ·subst q3
  obtain⟨AZ,AJ⟩:=AV.o.2.1 rfl;obtain⟨d,f,rfl⟩:∃d f,A4=[d,f]:=by
   match A4,AZ with
   | [d,f],_=>exact⟨d,f,rfl⟩
  have HD:=D (∀e w',(∃U S' l',e=Dt U/\Qn W7 S2 pb po w' (Qa4 m2 (kx,lx,L,dx,[d,f]) (ky,s,J,dy,C)).1 S' l'/\Yp W7 S' w' U (Qa4 m2 (kx,lx,L,dx,[d,f]) (ky,s,J,dy,C)).2)->∃U S' l',e=Dt U/\Qn w S pb po w' (Yz bk m 3 a b).1 S' l'/\Yp w S' w' U (Yz bk m 3 a b).2) (λe w' ⟨U,S',l',h1,h2,h3⟩=>⟨U,S',l',h1,by rw[AG.o];exact Y.o.trans h2,by rw[AG.o];exact h3.lo Y.o.fr.size⟩);obtain⟨Gx,ox,rx⟩:=BH.o;obtain⟨Gy,oy,ry⟩:=AY.o;have B0:=Qwb W7 pb po m2 S2 Y.o.mem w1 0 O 0 kx lx L dx d f Gx ky s J dy C Gy ox oy (λc E H=>by have:=(rx c E).1;have:=AH.o c H;omega) (λc E H=>by have:=(ry c E).1;have:=AH.o c H;omega) b.toNat a.toNat l Y.o.free AJ (by have:=HZ.o.2.1;omega) (by have:=HZ.o.2.2;omega);have HC:=qh B0;clear B0 ox rx oy ry AJ AZ;go_wp2_with((go_at_call 242;(with_reducible refine HC.o.mono ?_);rintro e w8 ⟨U,S',l',rfl,h1,h2⟩;have H1:=qh h1;have H2:=qh h2;clear h1 h2))
  go_ret;exact HD.o _ _ ⟨U,S',l',rfl,H1.o,H2.o⟩
 by_cases q6:k=6
 ·subst q6
  obtain⟨AJ,AO,B1,D6,D7⟩:=AV.o.2.2.2.2 rfl;have HD:=D (∀e w',(∃U S' l',e=Dt U/\Qn W7 S2 pb po w' (Jx m2 (kx,lx,L,dx,A4) (ky,s,J,dy,C)).1 S' l'/\Yp W7 S' w' U (Jx m2 (kx,lx,L,dx,A4) (ky,s,J,dy,C)).2)->∃U S' l',e=Dt U/\Qn w S pb po w' (Yz bk m 6 a b).1 S' l'/\Yp w S' w' U (Yz bk m 6 a b).2) (λe w' ⟨U,S',l',h1,h2,h3⟩=>⟨U,S',l',h1,by rw[AG.o];exact Y.o.trans h2,by rw[AG.o];exact h3.lo Y.o.fr.size⟩);obtain⟨Gx,ox,rx⟩:=BH.o;obtain⟨Gy,oy,ry⟩:=AY.o;have B0:=Qoi W7 pb po m2 S2 Y.o.mem w1 0 O 0 kx lx L dx A4 Gx ky s J dy C Gy ox oy (λc E H=>by have:=(rx c E).1;have:=AH.o c H;omega) (λc E H=>by have:=(ry c E).1;have:=AH.o c H;omega) b.toNat (a.toNat::l) Y.o.free (by simp only[Br];exact AJ) (by have:=HZ.o.1.2;omega) AO B1 D6 D7 F0;have HC:=qh B0;clear B0 ox rx oy ry AJ AO B1 D6 D7;go_wp2_with((go_at_call 245;(with_reducible refine HC.o.mono ?_);rintro e w8 ⟨U,S',l',rfl,h1,h2⟩;have H1:=qh h1;have H2:=qh h2;clear h1 h2))
  go_ret;exact HD.o _ _ ⟨U,S',l',rfl,H1.o,H2.o⟩
 by_cases AP:k=1\/k=2
 ·obtain⟨AZ,D8⟩:=AV.o.1 AP
  obtain⟨d,f,rfl⟩:∃d f,A4=[d,f]:=by
   match A4,AZ with
   | [d,f],_=>exact⟨d,f,rfl⟩
  obtain⟨y0,y1,rfl⟩:∃y0 y1,C=[y0,y1]:=by
   match C,D8 with
   | [y0,y1],_=>exact⟨y0,y1,rfl⟩
  have A1:=D (Yz bk m k a b=(m2,[(d,y0),(f,y1)])) (by
   rw[AG.o];have:(k==1||k==2)=Bn:=by rcases AP with rfl|rfl<;>rfl
   rw[if_pos this];rfl)
  obtain⟨Gx,ox,rx⟩:=BH.o;obtain⟨Gy,oy,ry⟩:=AY.o;obtain⟨_,_,G0,D9,⟨-,-,-,-,x4⟩,-,G1,G2,rfl,-,BI⟩:=ox.agent;obtain⟨_,_,DA,A5,⟨-,-,-,-,y4⟩,-,G3,G4,rfl,-,A6⟩:=oy.agent;obtain⟨bx,A7,C3,DB⟩:=Rd.elem BI.rd 0 (by simp);obtain⟨G5,G6,C4,DC⟩:=Rd.elem BI.rd 1 (by simp);rw[C3]at C4;simp only[Bt,Cq,and_true]at C4;obtain⟨rfl,rfl⟩:=C4;obtain⟨by_,K,A8,DD⟩:=Rd.elem A6.rd 0 (by simp);obtain⟨G7,G8,C5,DE⟩:=Rd.elem A6.rd 1 (by simp);rw[A8]at C5;simp only[Bt,Cq,and_true]at C5;obtain⟨rfl,rfl⟩:=C5;obtain⟨e0,e1,DF,DG⟩:=At.word (t:=d.1) (a:=d.2) DB;obtain⟨e2,e3,DH,DI⟩:=At.word (t:=f.1) (a:=f.2) DC;obtain⟨f0,f1,DJ,DK⟩:=At.word (t:=y0.1) (a:=y0.2) DD;obtain⟨f2,f3,DL,DM⟩:=At.word (t:=y1.1) (a:=y1.2) DE;simp only[Ty.sz,Bj,Dm,Ia,Cw,Cg,Hp]at x4 y4 e0 e1 e2 e3 f0 f1 f2 f3;have A3:=D ((w1.heap.size≠P/\bx≠P)/\(O.heap.size≠P/\by_≠P)) (⟨⟨by have:=(rx _ Ae).2;omega,by have:=(rx bx (Aa _ (Af _ (BI.block0 C3 (by simp))))).2;omega⟩,⟨by have:=(ry _ Ae).2;omega,by have:=(ry by_ (Aa _ (Af _ (A6.block0 A8 (by simp))))).2;omega⟩⟩);subst C3;subst A8;have F1:=D (Q55 (.slice Z7) ([(d,y0),(f,y1)]:List Qy3)) (λz hz=>by
   simp only[List.mem_cons,Cs,or_false]at hz;rcases hz with rfl|rfl
   ·exact⟨⟨DF,DG⟩,⟨DJ,DK⟩⟩
   exact⟨⟨DH,DI⟩,⟨DL,DM⟩⟩)
  obtain⟨il,B2,B3,B4,B5⟩:=Ck Q1d;clear DB DC DD DE DF DG DH DI DJ DK DL DM BI A6 ox oy rx ry AZ D8
  have DN:∀W,Q1 (λc=>c=P.heap.size) W7 W->(W,w1.heap.size,4,A (R ⟨bx,A7,N⟩) 2 D9)/\(W,bx,A7,I Z d.1)/\(W,bx,A7+1,I Z d.2)/\(W,bx,A7+2,I Z f.1)/\(W,bx,A7+3,I Z f.2)/\
    (W,O.heap.size,4,A (R ⟨by_,K,N⟩) 2 A5)/\(W,by_,K,I Z y0.1)/\(W,by_,K+1,I Z y0.2)/\(W,by_,K+2,I Z y1.1)/\(W,by_,K+3,I Z y1.2):=λW M=>by
   have k1:=Q62 M x4 e0 e1 e2 e3 A3.o.1.1 A3.o.1.2 A3.o.1.2 A3.o.1.2 A3.o.1.2;have k2:=Q62 M y4 f0 f1 f2 f3 A3.o.2.1 A3.o.2.2 A3.o.2.2 A3.o.2.2 A3.o.2.2;exact⟨k1.1,k1.2.1,k1.2.2.1,k1.2.2.2.1,k1.2.2.2.2,k2.1,k2.2.1,k2.2.2.1,k2.2.2.2.1,k2.2.2.2.2⟩
  have BJ:=qh DN;clear DN;rcases AP with rfl|rfl
  all_goals
   go_wp2_with fail
   go_region_held3(λW=>(W,w1.heap.size,4,A (R ⟨bx,A7,N⟩) 2 D9)/\(W,bx,A7,I Z d.1)/\(W,bx,A7+1,I Z d.2)/\(W,bx,A7+2,I Z f.1)/\(W,bx,A7+3,I Z f.2)/\(W,O.heap.size,4,A (R ⟨by_,K,N⟩) 2 A5)/\(W,by_,K,I Z y0.1)/\(W,by_,K+1,I Z y0.2)/\(W,by_,K+2,I Z y1.1)/\(W,by_,K+3,I Z y1.2))
    (first|exact F2.o|(with_reducible first|exact BJ.o _ (Q1.refl _ _).drew|exact BJ.o _ ((Q1.refl _ _).drew.alloc _)|exact BJ.o _ ((Q1.refl _ _).alloc _).drew))
    ((refine J7 _ rfl (.tmp 64) (.tmp 83) 114 rfl (t:=Z7) (v:=A (R ⟨P,0,N⟩) 0 0) (xs:=[]) (ys:=[(d,y0),(f,y1)]) rfl (by decide) P 146 il _ 32 underlying114 B2 B3 B4 B5 rfl (by decide) rfl rfl (EY.o.kept (show Below W7 W7 _ from(Ai _ _).drew.alloc (Aj _) _)) ((Qxu.of_block (t:=Z7) (xs:=[(d,y0),(f,y1)]) (B:=0) (g:=W7) (Bg W7.drew _) (by omega) rfl rfl F1 (by simp[Bu])).rd rfl) (by simp) (by simp;omega) ?_;intro v8 w8 DO DP;have F3:=qh (DO.eqL (Bs _));have BK:=qh (Q1.grown (X:=λc=>c=P.heap.size) (a:=W7) ((Q1.refl _ W7).drew.alloc _) DP (λi hi=>by simp[Value.ownBlock]at hi;right;omega));have F2:=qh (BJ.o _ BK);clear DO DP))
   go_wp2_with fail
   go_ret;refine⟨_,S2,b.toNat::a.toNat::l,rfl, ?_, ?_⟩
   ·rw[A1.o];exact Y.o.other BK (λc E=>⟨λH=>by have:=AH.o c H;omega,by omega⟩)
   rw[A1.o];exact Yp.ofOwn F3 EZ (λc H=>by have:=AH.o c (Aa _ H);omega)
 by_cases q4:k=4
 ·subst q4
  have AJ:=AV.o.2.2.1 rfl;have A1:=D (Yz bk m 4 a b=C.foldl Ym (m2,[])) (by rw[AG.o];rfl);obtain⟨Gy,oy,ry⟩:=AY.o;obtain⟨_,_,DA,A5,-,-,C6,B6⟩:=oy.facts (pb:=pb) (S:=S2) (λc E H=>by have:=(ry c E).1;have:=AH.o c H;omega);unfold Bu at C6;have AL:=qh B6;have F4:O.heap.size<W7:=oy.lt _ Ae;have DQ:=qh (Qn.start Y.o.mem Y.o.free);have DR:=D (Yp W7 S2 W7 (A (R ⟨P,0,N⟩) 0 0) []) (⟨[],⟨_,rfl,.inl ⟨rfl,rfl,_,rfl,λx hx=>by cases hx;rfl⟩⟩,by simp,by simp⟩);have F5:=D (C.length<=(b.toNat::a.toNat::l)+0) (by simp only[Br];exact AJ);have G9:C.length<=1000:=HZ.o.2.2;have DS:=D (pb<W7) (Y.o.mem.blk.lt);have C7:=D ((mC m2).length<=9223372036854775807) (by rw[D5.o];omega);clear B6 oy ry AJ;go_wp2_with fail
  go_loopw [14,15] (λu i wr=>∃(j:Nat) (S':MS) (l':List Nat),j<=C/\i=I Z j/\Hd (Qn W7 S2 pb po wr ((C.take j).foldl Ym (m2,[])).1 S' l')/\Hd (Yp W7 S' wr u ((C.take j).foldl Ym (m2,[])).2)/\Hd (C.length<=l'.length+j)/\Hd (((C.take j).foldl Ym (m2,[])).2.length=j)/\Hd ((mC ((C.take j).foldl Ym (m2,[])).1).length=(mC m2))) (λ_ i _=>C.length-(intOf i).toNat);case atStart=>exact⟨0,S2,b.toNat::a.toNat::l,Ak _,rfl,DQ.o,DR.o,F5.o,rfl,rfl⟩
  obtain⟨j,S',l',hj,rfl,HS,HO,DT,DU,DV⟩:=hrel;clear DQ DR;obtain⟨⟨-,-,-,-,y4⟩,-,A6⟩:=AL.o _ HS.o.fr;simp only[Cg]at y4;by_cases C8:j<C
  ·obtain⟨e,l2,rfl⟩:∃e l2,l'=e::l2:=by
    match l',(show 0<l'.length by have:=DT.o;omega)with
    |e::l2,_=>exact⟨e,l2,rfl⟩
   have BL:=D ((C.take (j+1)).foldl Ym (m2,[])=Ym ((C.take j).foldl Ym (m2,[])) C[j]) (by rw[An C8,List.foldl_append];rfl);generalize (C.take j).foldl Ym (m2,[])=Fj at *
   obtain⟨mj,oj⟩:=Fj;have HS:=D (Qn W7 S2 pb po wr mj S' (e::l2)) (HS.o);obtain⟨by_,K,A8,hE⟩:=Rd.elem A6 j C8;have GA:=qh A8;have AI:=D (∀W,Q1 (λc=>c=pb\/c∈S2.all) W7 W->(W,O.heap.size,4,A (R ⟨by_,K,N⟩) C A5)/\(W,by_,K+j * 2,I Z C[j].1)/\(W,by_,K+j * 2+1,I Z C[j].2)) (λW M=>by obtain⟨⟨-,-,-,-,k4⟩,-,AQ⟩:=AL.o W M;obtain⟨b2,o2,AM,C9⟩:=Rd.elem AQ j C8;rw[A8]at AM k4;simp only[Bt,Cq,and_true]at AM;obtain⟨rfl,rfl⟩:=AM;have:=At.word (t:=C[j].1) (a:=C[j].2) C9;simp only[Ty.sz,Bj,Cg]at this k4;exact⟨k4,this.1,this.2.1⟩);have B7:=D (Qyn C[j].1/\Qyn C[j].2) ((At.word (t:=C[j].1) (a:=C[j].2) hE).2.2);have F6:=D (C[j]=(C[j].1,C[j].2)) (rfl);generalize C[j].1=wt at *
   generalize C[j].2=wa at *
   clear A8 hE A6 y4;obtain⟨y4,f0,f1⟩:=AI.o _ HS.o.fr;obtain⟨pu,cu,rfl⟩:=HO.o.form;obtain⟨Fo,DW⟩:=HO.o;have A9:=qh DW;have B8:=D (mF mj=(e:Int)/\e<(mC mj).length) (⟨(HS.o.first Z6).1,(HS.o.first Z6).2.1⟩);have CA:=D (Qyn (e:Int)) (by have h1:=B8.o.2;have h2:(mC mj).length=(mC m2):=DV.o;have:=C7.o;unfold Qyn;omega);obtain⟨il,B2,B3,B4,B5⟩:=Ck Q1d;have GB:(0:Int)<=j:=by omega
   have GC:(j:Int)<C:=by omega
   have GD:=HS.o.fr.size;have CB:=D (∀q∈(S'.put (e:Int) []).all,q∈S'.all) (λq H=>(Y0 H).elim (λh=>by simp at h) id);have BF:=qh HS.o.mem.lt;have F7:=D (S2.cb<W7) (Y.o.mem.cells.blk.lt);clear DW;have CC:=D (Qyn 5/\Qyn 0) (by unfold Qyn;omega);have A3:=D (∀q∈([]:List Nat),W7<=q/\q∉pb::S'.all) (by simp);have F8:=D (∀W:Bh,Ow Q4 W [I Z 5,(),(),jN,jN] (5,0,0,[],[]) []) (λW=>Ow.mkAgent CC.o.1 CC.o.2 CC.o.2 (Ow.nil _) (Ow.nil _));go_wp2_with fail
   go_region_held3(λW=>(W,O.heap.size,4,A (R ⟨by_,K,N⟩) C A5)/\(W,by_,K+j * 2,I Z wt)/\(W,by_,K+j * 2+1,I Z wa))
    (with_reducible first|exact AI.o _ B9.o.fr|exact AI.o _ AR.o.fr|exact AI.o _ DX.o.fr|exact AI.o _ DY.o.fr|exact AI.o _ HS.o.drew.fr)
    (first|((go_at_call 243;(with_reducible refine(Q6h HS.o.drew 5 0 0 N N 0 0 0 0 (5,0,0,[],[]) [] (F8.o _) Gq (λq hq=>(A3.o q hq).2) (λq hq=>(A3.o q hq).1)).mono ?_);rintro e' w8 ⟨rfl,hs,M⟩;have DY:=qh hs;have BK:=qh (Q1.trans (show Q1 (λc=>c=pb\/c=S2.cb) wr _ from(Q1.refl _ wr).drew) M);clear hs M))|((go_at_call 240;(with_reducible refine(Vv (e:Int)).mono ?_);rintro e' w9 ⟨rfl,hb⟩;have DX:=qh (DY.o.below hb);have DZ:=qh (Q1.trans BK (Ay hb));have AR:=qh (DX.o.below (show Below w9 w9 (w9.alloc (.cells #[I Z wt,I Z wa,I Z 1,I Z e] 146))from(Ai _ _).alloc (Aj _) _));have F9:=DZ.o.size;clear hb))|((refine Yk _ rfl (.tmp 98) (.tmp 109) 114 rfl (e:=Z7) 146 il _ 32 underlying114 B2 B3 B4 B5 rfl (by decide) (v:=A pu oj cu) (xs:=oj) (y:=((wt,wa),((1:Int),(e:Int)))) (vs:=[I Z wt,I Z wa,I Z 1,I Z e]) (F:=Fo) w9 1 rfl rfl ((A9.o.1.frame DZ (λq hq=>⟨A9.o.1.lt q hq,λe'=>by have h1:=(A9.o.2.2 q hq).1;have:=DS.o;have:=F7.o;omega⟩)).kept λq hq=>Az _ _ _ (Ap (A9.o.1.lt q hq) F9)) A9.o.2.1 (Ow.link B7.o.1 B7.o.2 (by unfold Qyn;omega) CA) (Qaf (Q6 (Bg w9 _) rfl) (Q6 (Bg w9 _) rfl) (Q6 (Bg w9 _) rfl) (Q6 (Bg w9 _) rfl)) Qmj (by have h9:oj=j:=DU.o;omega) ?_;intro GE GF FA FB BA BB AN AS;have FC:=qh BA;have FD:=qh BB;have FE:=qh AN;have B9:=qh (AR.o.other AS (λc E=>⟨λH=>(Aq.1 H).elim (λe'=>by have:=(A9.o.2.2 c E).1;have:=DS.o;omega) (λh=>(A9.o.2.2 c E).2 (CB.o c h)),(A9.o.2.2 c E).1⟩));clear BA BB AN AS)))
   go_wp2_with fail
   go_roundw;case rel=>exact⟨j+1,S'.put (e:Int) [],l2,by omega,by go_num,(show Qn _ _ _ _ _ _ _ _ by rw[BL.o];exact B9.o),(show Yp _ _ _ _ _ by rw[BL.o,F6.o];show Yp _ _ _ _ (oj++ [((wt,wa),((1:Int),mF mj))]);rw[B8.o.1];exact⟨FB,FC.o,FD.o,λq hq=>(FE.o q hq).elim (λh=>⟨(A9.o.2.2 q h).1,λH=>(A9.o.2.2 q h).2 (CB.o q H)⟩) (λe'=>⟨by rw[e'];simp;omega,λH=>by have:=BF.o q (Aa _ (CB.o q H));rw[e']at this;simp at this;omega⟩)⟩),(show _<=_ by have:=DT.o;simp only[Br]at this;omega),(show _=_ by rw[BL.o];show(oj++ [_]).length=j+1;rw[List.length_append];have h9:oj=j:=DU.o;rw[h9];rfl),(show _=_ by rw[BL.o];show(mC (Qi mj _)).length=_;rw[Qg];exact DV.o)⟩
   simp[intOf];omega
  have FF:C<=j:=by omega
  have E0:=D (C.take j=C) (Ao FF);go_wp2_with fail
  go_ret;refine⟨_,S',l',rfl, ?_, ?_⟩
  ·rw[A1.o];rw[E0.o]at HS;exact Y.o.trans HS.o
  rw[A1.o];rw[E0.o]at HO;exact HO.o.lo Y.o.fr.size
 by_cases q5:k=5
 ·subst q5
  obtain⟨BM,BN⟩:=AV.o.2.2.2.1 rfl;have AO:0<C.length:=by
   by_cases e8:ky=8
   ·exact(BM e8).2
   exact Ap (by omega) (BN e8)
  obtain⟨Gy,oy,ry⟩:=AY.o;obtain⟨GG,GH,DA,A5,iy,FG,C6,B6⟩:=oy.facts (pb:=pb) (S:=S2) (λc E H=>by have:=(ry c E).1;have:=AH.o c H;omega);obtain⟨Gx,ox,rx⟩:=BH.o;obtain⟨_,_,_,_,ix,-,-,E1⟩:=ox.facts (pb:=pb) (S:=S2) (λc E H=>by have:=(rx c E).1;have:=AH.o c H;omega);unfold Bu at C6 FG;have AL:=qh B6;have E2:=qh E1;have BO:=qh iy;have E3:=qh ix;have C7:=D ((mC m2).length<=9223372036854775807) (by rw[D5.o];omega);have GI:w1.heap.size<W7:=ox.lt _ Ae;have F4:O.heap.size<W7:=oy.lt _ Ae;clear B6 E1 iy ix oy ry ox rx;by_cases e8:ky=8;case' pos=>
   subst e8;have B1:0<dy.length:=(BM rfl).1;have A1:=D (Yz bk m 5 a b=(Qi m2 (6,0,J6 J (dy.getD 0 0) L,[],[]),[(C.getD 0 (0,0),((1:Int),mF m2))])) (by rw[AG.o];rfl);obtain⟨⟨k0,k1,k2,k3,-⟩,E4,-⟩:=AL.o _ (Q1.refl _ _);obtain⟨⟨-,-,x2,-,-⟩,-,-⟩:=E2.o _ (Q1.refl _ _);obtain⟨bd,od,E5,hD⟩:=Rd.elem E4 0 B1;obtain⟨d0,GJ⟩:=At.int hD;rw[E5]at k3;simp only[Ty.sz,Cc,Cg,Cw]at d0 k0 k1 k2 k3 x2;have E6:=D (dy.getD 0 0=dy[0]) (by rw[Ab,Ad B1];rfl);have GK:(0:Int)<dy:=by omega
   generalize dy[0]=dv at *
   clear E5 hD E4 BM BN;go_upto_region 25 with fail
   have A0:=D (Below W7 W7 (W7.alloc (.cells #[I Z 6,(),(),jN,jN] 172))) (by go_grown);have A2:=qh (Bg W7 (.cells #[I Z 6,(),(),jN,jN] 172));have BC:W7.heap.size<(W7.alloc (.cells #[I Z 6,(),(),jN,jN] 172)).heap.size:=by simp
   generalize W7.alloc (.cells #[I Z 6,(),(),jN,jN] 172)=V at *
   have k2:=jC A0 k2;have k3:=jC A0 k3;have x2:=jC A0 x2;have d0:=jC A0 d0;obtain⟨⟨r0,r1,r2,r3,r4⟩,rf⟩:=Yf A2;go_still_tail 8,(by kernel_rfl)
   go_wp2_with((go_at_call 244;(with_reducible refine(Qmm).mono ?_);rintro e' w' ⟨rfl,rfl⟩))
   have E7:=D (((V.setCell ⟨W7,2,N⟩ (I Z (J6 J dv L))).drew).heap[W7.heap.size]?=R (.cells #[I Z 6,(),I Z (J6 J dv L),jN,jN] 172 (0,0))) (Z1 A2);have E8:=qh (A0.o.setCell (p:=⟨W7,2,N⟩) (Aj _) (I Z (J6 J dv L))).drew;have E9:=D (∀W:Bh,Ow Q4 W [I Z 6,(),I Z (J6 J dv L),jN,jN] (6,0,J6 J dv L,[],[]) []) (λW=>Ow.mkAgent (by unfold Qyn;omega) (by unfold Qyn;omega) (Qcy) (Ow.nil _) (Ow.nil _));have AT:=D (Yz bk m 5 a b=(Qi m2 (6,0,J6 J dv L,[],[]),[(C.getD 0 (0,0),((1:Int),mF m2))])) (by rw[A1.o,E6.o]);clear A1 E6 k2 k3 x2 d0 rf r0 r1 r2 r3 r4;generalize (V.setCell ⟨W7,2,N⟩ (I Z (J6 J dv L))).drew=W8 at *
   obtain⟨kc,lc,vc,AA,AB,AC,AD,AE,AF,yc,Gc,BP,EA,EB,BQ,A1⟩:∃(kc lc vc:Int) (AA:Option Addr) (AB AC:Nat) (AD:Option Addr) (AE AF:Nat) (yc:Qb) (Gc:List Nat),Hd (W8.heap[W7.heap.size]?=R (.cells #[I Z kc,I Z lc,I Z vc,A AA AB AC,A AD AE AF] 172 (0,0)))/\Hd (W7,W8)/\Hd (Ow Q4 W8 [I Z kc,I Z lc,I Z vc,A AA AB AC,A AD AE AF] yc Gc)/\Hd (Gc.Nodup/\∀q∈Gc,W7<=q)/\Hd (Yz bk m 5 a b=(Qi m2 yc,[(C.getD 0 (0,0),((1:Int),mF m2))])):=⟨6,0,J6 J dv L,N,0,0,N,0,0,(6,0,J6 J dv L,[],[]),[],E7,E8,qh (E9.o _),qh ⟨Gq,by simp⟩,AT⟩;clear A0 A2 BC E7 E8 E9 AT
  case' neg=>
   have EC:1<C.length:=BN e8;have ED:(ky==8)=Bm:=by simpa using e8
   have AT:=D (Yz bk m 5 a b=(Qi m2 (8,s,J,[L],[C.getD 1 (0,0)]),[(C.getD 0 (0,0),((1:Int),mF m2))])) (by rw[AG.o];show Q40 _ _ _=_;unfold Q40;simp only[aK,ED];rfl);obtain⟨⟨k0,k1,k2,-,k4⟩,-,AQ⟩:=AL.o _ (Q1.refl _ _);obtain⟨⟨-,-,x2,-,-⟩,-,-⟩:=E2.o _ (Q1.refl _ _);obtain⟨bw,ow,EE,hE⟩:=Rd.elem AQ 1 EC;obtain⟨e0,e1,EF⟩:=At.word (t:=C[1].1) (a:=C[1].2) hE;rw[EE]at k4;simp only[Ty.sz,Bj,Cc,Ia,Cg,Cw,Hp]at e0 e1 k0 k1 k2 k4 x2;have CD:=D (C.getD 1 (0,0)=(C[1].1,C[1].2)) (by rw[Ab,Ad EC];rfl);have GL:(1:Int)<C:=by omega
   have BR:=qh EF;generalize C[1].1=zt at *
   generalize C[1].2=za at *
   clear EE hE AQ BM BN EF ED;go_upto_region 26 with fail
   have A0:=D (Below W7 W7 (W7.alloc (.cells #[I Z 6,(),(),jN,jN] 172))) (by go_grown);have A2:=qh (Bg W7 (.cells #[I Z 6,(),(),jN,jN] 172));have BC:W7.heap.size<(W7.alloc (.cells #[I Z 6,(),(),jN,jN] 172)).heap.size:=by simp
   generalize W7.alloc (.cells #[I Z 6,(),(),jN,jN] 172)=V at *
   have CE:bw≠W7:=by have:=Ac W7 _ e0;simp only at this;omega
   have k1:=jC A0 k1;have k2:=jC A0 k2;have k4:=jC A0 k4;have x2:=jC A0 x2;have e0:=jC A0 e0;have e1:=jC A0 e1;obtain⟨⟨r0,r1,r2,r3,r4⟩,rf⟩:=Yf A2;have l1:=Ac V _ k1;have l2:=Ac V _ x2;have l3:=Ac V _ e0;have BS:O.heap.size≠W7:=by omega
   have EG:w1.heap.size≠W7:=by omega
   have EH:=D (∀W,Q1 (λc=>c=W7.heap.size) V W->(W,O.heap.size,1,I Z s)/\(W,O.heap.size,2,I Z J)/\(W,w1.heap.size,2,I Z L)/\(W,O.heap.size,4,A (R ⟨bw,ow,N⟩) C A5)/\(W,bw,ow+2,I Z zt)/\(W,bw,ow+3,I Z za)) (λW M=>⟨Qo M k1 BS,Qo M k2 BS,Qo M x2 EG,Qo M k4 BS,Qo M e0 CE,Qo M e1 CE⟩)
   go_region_held3(λW=>(W,O.heap.size,1,I Z s)/\(W,O.heap.size,2,I Z J)/\(W,w1.heap.size,2,I Z L)/\(W,O.heap.size,4,A (R ⟨bw,ow,N⟩) C A5)/\(W,bw,ow+2,I Z zt)/\(W,bw,ow+3,I Z za))
    (((with_reducible refine EH.o _ ?_);(with_reducible refine Q1.drew ?_);(repeat(with_reducible refine Q1.alloc ?_ _));(first|with_reducible exact Q1.refl _ _|exact Q1y (X:=λc=>c=W7.heap.size) (Q1.refl (λc=>c=W7.heap.size) V) rfl _ _ _ _ _|fail)))
    (fail)
   all_goals
    refine Qp λW8 EI=> ?_;obtain⟨kc,lc,vc,AA,AB,AC,AD,AE,AF,yc,Gc,BP,EA,EB,BQ,A1⟩:∃(kc lc vc:Int) (AA:Option Addr) (AB AC:Nat) (AD:Option Addr) (AE AF:Nat) (yc:Qb) (Gc:List Nat),Hd (W8.heap[W7.heap.size]?=R (.cells #[I Z kc,I Z lc,I Z vc,A AA AB AC,A AD AE AF] 172 (0,0)))/\Hd (W7,W8)/\Hd (Ow Q4 W8 [I Z kc,I Z lc,I Z vc,A AA AB AC,A AD AE AF] yc Gc)/\Hd (Gc.Nodup/\∀q∈Gc,W7<=q)/\Hd (Yz bk m 5 a b=(Qi m2 yc,[(C.getD 0 (0,0),((1:Int),mF m2))])):=by
     rw[EI]
     first
      |exact⟨8,s,J,R ⟨V,0,N⟩,1,1,R ⟨V+1,0,N⟩,1,1,(8,s,J,[L],[(zt,za)]),[V.heap.size]++ [V.heap.size+1],qh (Q34 A2).2.2.1,qh (A0.o.trans ((Q34 A2).2.2.2.below (Fu BC) (λi e=>by omega))),qh (Ow.mkAgent (by unfold Qyn;omega) BO.o.2.1 BO.o.2.2 (Qbi (Q34 A2).1 E3.o.2.2) (Q5k (Q34 A2).2.1 BR.o.1 BR.o.2)),qh ⟨by simp,by simp;omega⟩,qh (by rw[AT.o,CD.o])⟩
      |exact⟨8,s,J,R ⟨V+1,0,N⟩,1,1,R ⟨V,0,N⟩,1,1,(8,s,J,[L],[(zt,za)]),[V.heap.size+1]++ [V.heap.size],qh (Q34 A2).2.2.1,qh (A0.o.trans ((Q34 A2).2.2.2.below (Fu BC) (λi e=>by omega))),qh (Ow.mkAgent (by unfold Qyn;omega) BO.o.2.1 BO.o.2.2 (Qbi (Q34 A2).2.1 E3.o.2.2) (Q5k (Q34 A2).1 BR.o.1 BR.o.2)),qh ⟨by simp,by simp;omega⟩,qh (by rw[AT.o,CD.o])⟩
    clear EI A0 A2 BC k1 k2 x2 k4 e0 e1 EH AT CD BS EG CE rf r0 r1 r2 r3 r4 l1 l2 l3
  all_goals
   generalize b.toNat=nb at *
   have AU:=qh ((Qn.start Y.o.mem Y.o.free).below EA);obtain⟨⟨-,-,-,-,y4⟩,-,A6⟩:=AL.o _ AU.o.fr;obtain⟨by_,K,A8,hE⟩:=Rd.elem A6 0 AO;have AI:=D (∀n,Q1 (λc=>c=pb\/c∈S2.all) W7 n->(n,O.heap.size,4,A (R ⟨by_,K,N⟩) C A5)/\(n,by_,K,I Z C[0].1)/\(n,by_,K+1,I Z C[0].2)) (λn M=>by obtain⟨⟨-,-,-,-,k4⟩,-,AQ⟩:=AL.o n M;obtain⟨b2,o2,AM,C9⟩:=Rd.elem AQ 0 AO;rw[A8]at AM k4;simp only[Bt,Cq,and_true]at AM;obtain⟨rfl,rfl⟩:=AM;have:=At.word (t:=C[0].1) (a:=C[0].2) C9;simp only[Ty.sz,Bj,Cg,Dm,Cw]at this k4;exact⟨k4,this.1,this.2.1⟩);have B7:=D (Qyn C[0].1/\Qyn C[0].2) ((At.word (t:=C[0].1) (a:=C[0].2) hE).2.2);have FH:=D (C.getD 0 (0,0)=(C[0].1,C[0].2)) (by rw[Ab,Ad AO];rfl);generalize C[0].1=wt at *
   generalize C[0].2=wa at *
   clear A8 hE A6 y4;obtain⟨y4,f0,f1⟩:=AI.o _ AU.o.fr;obtain⟨⟨r0,r1,r2,r3,r4⟩,-⟩:=Yf BP;have FI:W7.heap.size<W8:=(Al.1 BP).1;have B8:=D (mF m2=(nb:Int)/\nb<(mC m2)) (⟨(AU.o.first Z6).1,(AU.o.first Z6).2.1⟩);have CA:=D (Qyn (nb:Int)) (by have h1:=B8.o.2;have:=C7.o;unfold Qyn;omega);obtain⟨il,B2,B3,B4,B5⟩:=Ck Q1d;have EJ:=qh Y.o.mem.lt;have EK:=D ((∀q∈Gc,q∉pb::S2.all)/\∀q∈Gc,W7<=q) (⟨λq hq H=>by have:=BQ.o.2 q hq;have:=EJ.o q H;omega,BQ.o.2⟩);have GM:(0:Int)<C:=by omega
   have BD:=D (¬(W7=pb\/W7=S2.cb)) (λh=>by have h1:=EJ.o pb Ae;have h2:=Y.o.mem.cells.blk.lt;omega);have BE:=D (∀n,Q1 (λc=>c=pb\/c∈S2.all) W7 n->Q1 (λc=>c=pb\/c=S2.cb) W8 n->((n,O.heap.size,4,A (R ⟨by_,K,N⟩) C A5)/\(n,by_,K,I Z wt)/\(n,by_,K+1,I Z wa))/\(n,W7.heap.size,0,I Z kc)/\(n,W7.heap.size,1,I Z lc)/\(n,W7.heap.size,2,I Z vc)/\(n,W7.heap.size,3,A AA AB AC)/\(n,W7.heap.size,4,A AD AE AF)) (λn h1 h2=>by obtain⟨⟨g0,g1,g2,g3,g4⟩,-⟩:=Yf BP;exact⟨AI.o n h1,Q62 h2 g0 g1 g2 g3 g4 BD BD BD BD BD⟩);have FJ:=D (Q1 (λc=>c=pb\/c=S2.cb) W8 W8.drew) ((Q1.refl _ W8).drew);have GN:=FI;have FK:=D (Qyn (1:Int)) (by unfold Qyn;omega);have FL:=D (([]:List Qy3).length+1<=1000000000) (by simp);go_wp2_with fail
   go_region_held3(λW=>((W,O.heap.size,4,A (R ⟨by_,K,N⟩) C A5)/\(W,by_,K,I Z wt)/\(W,by_,K+1,I Z wa))/\(W,W7.heap.size,0,I Z kc)/\(W,W7.heap.size,1,I Z lc)/\(W,W7.heap.size,2,I Z vc)/\(W,W7.heap.size,3,A AA AB AC)/\(W,W7.heap.size,4,A AD AE AF))
    (first|(with_reducible first|exact BE.o _ EL.o.fr FM.o|exact BE.o _ AR.o.fr EM.o|exact BE.o _ CF.o.fr CG.o|exact BE.o _ B9.o.fr EN.o|exact BE.o _ AU.o.drew.fr FJ.o)|fail)
    (first|((go_at_call 243;(with_reducible refine(Q6h AU.o.drew kc lc vc AA AD AB AC AE AF yc Gc (EB.o.kept λ_ _=>rfl) BQ.o.1 EK.o.1 EK.o.2).mono ?_);rintro e' FA ⟨rfl,hs,M⟩;have B9:=qh hs;have EN:=qh (Q1.trans (show Q1 (λc=>c=pb\/c=S2.cb) W8 _ from(Q1.refl _ W8).drew) M);clear hs M))|((go_at_call 240;(with_reducible refine(Vv (nb:Int)).mono ?_);rintro e' AK ⟨rfl,hb⟩;have CF:=qh (B9.o.below hb);have CG:=qh (Q1.trans EN (Ay hb));have AR:=qh (CF.o.below (show Below AK AK (AK.alloc (.cells #[I Z wt,I Z wa,I Z 1,I Z nb] 146))from(Ai _ _).alloc (Aj _) _));have GO:=CG.o.size;have EM:=qh (CG.o.alloc (.cells #[I Z wt,I Z wa,I Z 1,I Z nb] 146));clear hb))|((refine Yk _ rfl (.tmp 140) (.tmp 150) 114 rfl (e:=Z7) 146 il _ 32 underlying114 B2 B3 B4 B5 rfl (by decide) (v:=A (R ⟨P,0,N⟩) 0 0) (xs:=[]) (y:=((wt,wa),((1:Int),(nb:Int)))) (vs:=[I Z wt,I Z wa,I Z 1,I Z nb]) (F:=[]) AK 1 rfl rfl ⟨_,rfl,.inl ⟨rfl,rfl,_,rfl,λx hx=>by cases hx;rfl⟩⟩ Gq (Ow.link B7.o.1 B7.o.2 FK CA) (Qaf (Q6 (Bg AK _) rfl) (Q6 (Bg AK _) rfl) (Q6 (Bg AK _) rfl) (Q6 (Bg AK _) rfl)) Qmj FL ?_;intro GP GQ GR FN BA BB AN AS;have FO:=qh BA;have FP:=qh BB;have FQ:=qh AN;have EL:=qh (AR.o.other AS (λc E=>absurd E Cs));have FM:=qh (Q1.trans EM (AS.mono λc E=>absurd E Cs));clear BA BB AN AS))|fail)
   go_wp2_with fail
   go_ret;refine⟨_,S2.put (nb:Int) Gc,a.toNat::l,rfl, ?_, ?_⟩
   ·rw[A1.o];exact Y.o.trans EL.o
   rw[A1.o];show Yp _ _ _ _ [(C.getD 0 (0,0),((1:Int),mF m2))];rw[FH.o,B8.o.1];refine⟨FN,FO.o,FP.o,λq hq=>(FQ.o q hq).elim (λh=>by simp at h) (λe'=>⟨by rw[e'];have:=Y.o.fr.size;simp;omega,λH=> ?_⟩)⟩;have h1:=AR.o.mem.lt q (Aa _ H);rw[e']at h1;have h2:=CF.o.mem.lt q (Aa _ H);rw[e']at h2;simp at h2;omega
 have c1:¬k=1:=λh=>AP (.inl h);have c2:¬k=2:=λh=>AP (.inr h);have A1:=D (Yz bk m k a b=(m2,[])) (by rw[AG.o];simp[c1,c2,q3,q4,q5,q6]);clear AP;go_wp2_with fail
 go_ret;refine⟨_,S2,b.toNat::a.toNat::l,rfl, ?_, ?_⟩
 ·rw[A1.o];exact Y.o
 rw[A1.o];exact⟨[],⟨_,rfl,.inl ⟨rfl,rfl,_,rfl,λx hx=>by cases hx;rfl⟩⟩,by simp,by simp⟩
theorem Qmw{w}(pb z p P)(k:Nat)(h:Y2 w pb z p P)(hk:k<(pW p))(hl:0<(wL (Q3 p k)).length)(E6:(wL (Q3 p k)).length<=1000000)(E7:(wX (Q3 p k)).length<=1000000)(g1:Zc (mC (pM p)) (Q32 (Q3 p k)).1=Bn)(g2:Zc (mC (pM p)) (Q32 (Q3 p k)).2=Bn):
  Calls prog 190 #[.pointer (R ⟨pb,z,N⟩),.pointer (R ⟨P.wb,P.wo+k * 5,N⟩)] w λe w'=>e=.returned (.tuple #[])/\∃P',Z4 w P pb z w' ((Ja (pM p) (Q3 p k)).1,(pW p).set k (Ja (pM p) (Q3 p k)).2,pA p) P':=by
 have HP:=qh h;obtain⟨pl,cl,Gl,c3,AL,B6,B7,B8,B9⟩:=h.focL hk;obtain⟨G,H,rfl,hE⟩:=Rd.elem AL.rd 0 hl;have CG:=qh AL;have E8:=qh B7;have E9:=qh B8;have CH:=qh B9;have CI:=qh B6;have EA:(wL (Q3 p k))<=cl:=by obtain⟨_,_,he,h1,_⟩:=Jh AL.rd;simp only[List.cons.injEq,Value.slice.injEq,and_true]at he;omega
 have AX:=D (Q32 (Q3 p k)=(wL (Q3 p k))[0]) (by unfold Q32;rw[Ab,Ad hl];rfl);have CJ:=qh (Qgf (f:=λx=>Zc (mC (pM p)) x=Bn) g1 g2);have HG:=D ((Zc (mC (pM p)) (Q32 (Q3 p k)).1=Bn/\Zc (mC (pM p)) (Q32 (Q3 p k)).2=Bn)) (⟨g1,g2⟩);clear g1 g2 AL B7 B8 B9 B6;have BA:=AX.o;generalize (wL (Q3 p k))[0]=l0 at *
 obtain⟨⟨Y,l⟩,⟨O,m⟩⟩:=l0;obtain⟨⟨e0,e1,e2,e3⟩,i0,i1,i2,i3⟩:=hE.link;simp only[Dm,Cw]at e0 e1 e2 e3;have HI:=D ((Qyn Y/\Qyn l)/\(Qyn O/\Qyn m)) (⟨⟨i0,i1⟩,i2,i3⟩);have EB:=i1.bd;have EC:=i3.bd;have ED:(0:Int)<(wL (Q3 p k)):=by omega
 have CK:=h.mem.blk.lt;have CL:=Ac w _ c3;have CM:=Ac w _ e0;simp only at CL CM;rw[BA]at HG;have HT:=D ((Y=1\/Y=2)/\(O=1\/O=2)) (by have h1:=(Jo HG.o.1).2;have h2:=(Jo HG.o.2).2;simp only at h1 h2;omega);clear hE i0 i1 i2 i3 h BA;go_enter func190,ntmps190;go_upto_region 2 with fail
 refine Qp λW1 BB=> ?_;have AM:=D ((w,W1)/\W1.heap[w.heap.size]?=R (.cells #[I Z Y,I Z l] 40 (0,0))/\W1.heap[w.heap.size+1]?=R (.cells #[I Z O,I Z m] 40 (0,0))) (by rw[BB];exact⟨by go_grown,(Jt w _ _ _ _).1,(Jt w _ _ _ _).2⟩);clear BB;obtain⟨A5,AN,AO⟩:Hd _/\Hd _/\Hd _:=⟨qh AM.o.1,qh AM.o.2.1,qh AM.o.2.2⟩;clear AM;obtain⟨⟨x0,s⟩,xf⟩:=Zj AN;obtain⟨⟨y0,y1⟩,yf⟩:=Zj AO;have CN:=A5.o.size;have CO:=jC A5 c3;have CP:=jC A5 e0;have CQ:=jC A5 e1;have CR:=jC A5 e2;have CS:=jC A5 e3;clear e0 e1 e2 e3;go_cut [35] (λq wx=>q=.bool (O==2 && (Y !=2||decide (l<m)))/\W1=wx)
 case first=>
  have CT:(O=1)\/(O=2/\Y=1)\/(O=2/\Y=2/\l<m)\/(O=2/\Y=2/\m<=l):=by have:=HT.o;omega
  rcases CT with rfl|⟨rfl,rfl⟩|⟨rfl,rfl,hlt⟩|⟨rfl,rfl,hge⟩
  all_goals
   go_wp2_with fail
   go_meet;refine⟨?_,rfl⟩;first|(simp;done)|(simp;omega)
 obtain⟨rfl,rfl⟩:=hcut;obtain⟨q,hq⟩:∃q:Bool,q=(O==2 && (Y !=2||decide (l<m))):=⟨_,rfl⟩;have HQ:=D (Q2f ((Y,l),(O,m))=if q then((O,m),(Y,l))else((Y,l),(O,m))) (by rw[hq];rfl);rw[<-hq];clear hq;go_upto_if 35 with(fail)
 go_cut [49] (λ_ wx=>∃A1 B E C:Int,Hd (Q2f (Q32 (Q3 p k))=((A1,B),(E,C)))/\Hd ((Qyn A1/\Qyn B)/\(Qyn E/\Qyn C))/\Hd (wx.heap[w.heap.size]?=R (.cells #[I Z A1,I Z B] 40 (0,0)))/\Hd (wx.heap[w.heap.size+1]?=R (.cells #[I Z E,I Z C] 40 (0,0)))/\Hd (w,wx))
 case first=>
  cases q with
  |true=>
   go_wp2_with fail
   go_meet;exact⟨O,m,Y,l,qh (by rw[AX.o,HQ.o];rfl),qh ⟨HI.o.2,HI.o.1⟩,qh (Qtg AN AO (by omega)).1,qh (Qtg AN AO (by omega)).2,qh ((((A5.o.setCell (Aj _) _).setCell (Aj _) _).setCell (Ii _) _).setCell (Ii _) _)⟩
  |false=>
   go_wp2_with fail
   go_meet;exact⟨Y,l,O,m,qh (by rw[AX.o,HQ.o];rfl),HI,AN,AO,A5⟩
 case rest=>
 obtain⟨A1,B,E,C,AE,L,CU,BC,AP⟩:=hcut;rename Bh=>W2
 clear HQ;clear x0 s xf y0 y1 yf CN CO CP CQ CR CS;obtain⟨⟨x0,s⟩,xf⟩:=Zj CU;obtain⟨⟨y0,y1⟩,yf⟩:=Zj BC;have EE:=AP.o.size;have EF:=(Al.1 BC).1;have g:=qh ((Z4.start HP).below AP);have BD:=Jo (w:=(A1,B)) (by have:=CJ.o.1;rw[AE.o]at this;exact this);simp only at BD;obtain⟨⟨BE,BF⟩,BG⟩:=BD;have EG:=L.o.1.2.bd;have EH:=L.o.2.2.bd;have CV:(A1=1)\/(A1=2/\E=2/\B=C)\/(A1=2/\¬(E=2/\B=C)/\(Q2n (pM p) B).length=0)\/(A1=2/\¬(E=2/\B=C)/\0<(Q2n (pM p) B).length):=by omega
 have EI:=qh BG;have AB:=qh CK;clear BG;rcases CV with rfl|⟨rfl,rfl,rfl⟩|⟨rfl,hn,hw0⟩|⟨rfl,hn,hw0⟩
 focus
  obtain⟨pr,cr,Gr,r2,BH,BI,AF,BJ⟩:=g.o.pool.focR hk;have BK:=qh BH;have CW:=qh BI;have EJ:=qh AF;have CX:=qh BJ;have BL:=D (Qyn (min B C)/\Qyn (max B C)) (by unfold Qyn;omega);have BM:¬P.wb∈Gr:=λe=>(AF _ e).2.2.1 rfl;have AY:=HP.o.lt;have BN:¬w.heap.size∈Gr:=λe=>by have:=AY _ (Aa _ (AF _ e).1);omega
  have BO:¬w.heap.size+1∈Gr:=λe=>by have:=AY _ (Aa _ (AF _ e).1);omega
  have BP:=D (∀W,Q1 (λc=>c∈Gr\/c=P.wb) W2 W->(W,w.heap.size,1,I Z B)/\(W,w.heap.size+1,1,I Z C)) (λW hf=>⟨Qo hf s (λe=>e.elim BN λe=>by omega),Qo hf y1 (λe=>e.elim BO λe=>by omega)⟩);have CY:=λq=>g.o.pool.wks.blk.free q;have CZ:=g.o.pool.wks.blk.lt;have AZ:=qh (And.intro BM CZ);have A8:=D (Ja (pM p) (Q3 p k)=(pM p,(wP (Q3 p k),wV (Q3 p k),wX (Q3 p k)++ [(min B C,max B C)],(wL (Q3 p k)).drop 1,wC (Q3 p k)))) (by unfold Ja;rw[AE.o];rfl);obtain⟨i0,D0,D1,D2,D3⟩:=Ck Jj;clear BH BI AF BJ AY BN BO BM;go_upto_region 13 with fail
  go_cut [105] (λ_ wx=>∃(J:Ye) (d:PS),Hd (Z4 w P pb z wx J d)/\Hd (wL (Q3 J k)=wL (Q3 p k))/\Hd (k<(pW J))/\Hd (((Ja (pM p) (Q3 p k)).1,(pW p).set k (Ja (pM p) (Q3 p k)).2,pA p)=Q08 J k (Q9s (Q3 J k) ((wL (Q3 p k)).drop 1))))
  case first=>
   have EK:=Q7a;rw[<-Q7a _ (.tmp 108)]
   go_region_held3(λW=>(W,w.heap.size,1,I Z B)/\(W,w.heap.size+1,1,I Z C))
    (first|(with_reducible first|exact BP.o _ (A9.o.mono λ_ h=> .inl h)|exact BP.o _ (V1 (A9.o.mono λ_ h=> .inl h) (.inr rfl) _))|(refine Qum (w:=W2) ?_ s y1;go_grown))
    (first|((go_at_call 220;(with_reducible refine jX (Qu3) ?_)))|((go_at_call 221;(with_reducible refine jX (Qpe) ?_)))|((refine Yk _ rfl (.tmp 109) (.tmp 121) 41 rfl (e:=Q5) 143 i0 _ 16 underlying41 D0 D1 D2 D3 rfl (by decide) (v:=A pr (wX (Q3 p k)) cr) (xs:=wX (Q3 p k)) (y:=(min B C,max B C)) (vs:=[I Z (min B C),I Z (max B C)]) (F:=Gr) W2 1 rfl rfl (BK.o.kept λb U=>Az _ _ _ (BK.o.lt b U)) CW (Ow.word BL.o.1 BL.o.2) (Q76 (Q6 (Bg W2.drew _) rfl) (Q6 (Bg W2.drew _) rfl)) Qni (by omega) ?_;intro p3 D4 w3 F3 BQ BR BS BT;have D5:=qh BQ;have D6:=qh BR;have D7:=qh BS;have A9:=qh (Q1.trans (show Q1 (λc=>c∈Gr) W2 _ from((Q1.refl _ W2).alloc _).drew) BT);have EL:=λq=>(A9.o.frozen AZ.o.2 AZ.o.1 q).trans (CY q);have EM:=Qo A9 r2 AZ.o.1;clear BQ BR BS BT)))
   all_goals
    go_wp2_with fail
    go_meet;obtain⟨d,h4⟩:=CX.o w3 p3 _ D4 _ F3 A9 D5 D6 (λb U=>(D7.o b U).imp id λe=>by rw[e];simp);exact⟨_,d,qh (g.o.trans AB h4),qh (by rw[Q27 hk,if_pos rfl];rfl),qh (by show k<((pW p).set k _);rw[List.length_set];exact hk),qh (by rw[A8.o,Q27 hk,if_pos rfl];show _=Q08 (Q08 p k _) k _;unfold Q08;simp only[pM,pW,pA,List.set_set];rfl)⟩
  obtain⟨J,d,A0,B0,B3,AQ⟩:=hcut;rename Bh=>M
 rotate_left
 focus
  have hq:=λw=>Q3a L.o.1.1 L.o.1.2 L.o.1.1 L.o.1.2 w;simp only[beq_self_eq_true,Bool.and_self,Bool.not_true]at hq;have A8:=D (Ja (pM p) (Q3 p k)=(Qd (pM p) B,(wP (Q3 p k),wV (Q3 p k),wX (Q3 p k),(wL (Q3 p k)).drop 1,wC (Q3 p k)))) (by simp[Ja,AE.o]);go_wp2_with fail
  go_still_tail 5,(by kernel_rfl)
  have n:=qh g.o.drew;go_upto_region 14 with((go_at_call 219;(with_reducible refine(Q95 _ _ _ _ _ n.o.pool.mem B BE BF).mono ?_);rintro e K ⟨rfl,hm,hf,AG⟩;have D8:=qh hm;have A9:=qh hf;have D9:=qh AG;clear hm hf AG))
  refine Qp λM A3=> ?_;obtain⟨J,d,A0,B0,B3,AQ⟩:∃(J:Ye) (d:PS),Hd (Z4 w P pb z M J d)/\Hd (wL (Q3 J k)=wL (Q3 p k))/\Hd (k<(pW J))/\Hd (((Ja (pM p) (Q3 p k)).1,(pW p).set k (Ja (pM p) (Q3 p k)).2,pA p)=Q08 J k (Q9s (Q3 J k) ((wL (Q3 p k)).drop 1))):=by rw[A3];exact⟨(Qd (pM p) B,pW p,pA p),_,qh (n.o.trans AB (n.o.pool.stM D8 (A9.o.mono λc hc=>hc.imp id Q20) D9 (λb U=>(Y0 U).elim (λh=>by simp at h) .inl))),qh rfl,qh hk,qh (by rw[A8.o];rfl)⟩
  clear A3
 rotate_left
 focus
  have hq:=λw=>Q3a L.o.1.1 L.o.1.2 L.o.2.1 L.o.2.2 w;have AA:(2==E && B==C)=Bm:=by simp only[Hk,beq_eq_false_iff_ne];omega
  have A8:=D (Ja (pM p) (Q3 p k)=(Qa (pM p) B [(E,C)],(wP (Q3 p k),wV (Q3 p k),wX (Q3 p k),(wL (Q3 p k)).drop 1,wC (Q3 p k)))) (by have B4:(((2:Int),B)==(E,C))=Bm:=AA;simp[Ja,AE.o,B4,hw0]);simp only[AA,Hr]at hq;have DA:=qh hn;have DB:=qh hw0;obtain⟨EN,EO,-,-,f4,-⟩:=g.o.pool.mem.focusW (i:=B) (by omega);have AH:(aW (Q7 (mC (pM p)) B)).length=0:=hw0;rw[AH]at f4;obtain⟨_,_,m0,-,-,-,-,-,-,-,-⟩:=g.o.pool.mem.head;have AI:=g.o.pool.mem.cells.bound;unfold Bu at AI;obtain⟨DC,DD⟩:=AI;clear hn hw0 AA AH;go_wp2_with fail
  go_quiet(fail)
  refine Qp λK A6=> ?_;have A4:=D (w,K) (by rw[A6];exact Q8 AP _);have V:Qh0 W2 K:=by rw[A6];exact(Am (Q8 (Ai _ _) _))
  have n:=D (Z4 w P pb z K p P) (by rw[A6];exact g.o.below (Q8 (Ai _ _) _));have x0:=V.cell _ _ x0;have s:=V.cell _ _ s;have y0:=V.cell _ _ y0;have y1:=V.cell _ _ y1;have f4:=V.cell _ _ f4;obtain⟨pw,cw,Gd,Gw,-,AC,DE,BU,BV⟩:=n.o.pool.mem.focusW (i:=B) (by omega);have DF:=qh BV;have DG:=qh BU;have EP:=λq=>n.o.pool.mem.cells.blk.free q;have DH:=n.o.pool.mem.cells.blk.lt;clear A6 AC DE BU BV V m0;go_upto_region 14 with fail
  refine Qp λM A3=> ?_;obtain⟨J,d,A0,B0,B3,AQ⟩:∃(J:Ye) (d:PS),Hd (Z4 w P pb z M J d)/\Hd (wL (Q3 J k)=wL (Q3 p k))/\Hd (k<(pW J))/\Hd (((Ja (pM p) (Q3 p k)).1,(pW p).set k (Ja (pM p) (Q3 p k)).2,pA p)=Q08 J k (Q9s (Q3 J k) ((wL (Q3 p k)).drop 1))):=by rw[A3,<-World.setCell_alloc_past _ _ _ _ DH];have AC:=Q5k (Bg K _) L.o.2.1 L.o.2.2 (T:=40);have hm:=DF.o (K.alloc (.cells #[I Z E,I Z C] 40)) (R ⟨K,0,N⟩) 1 1 [(E,C)] [K.heap.size] ((Q1.refl _ _).alloc _) AC rfl (by simp) (λb U=> .inr λhm=>by have:=n.o.pool.mem.lt b hm;rw[Bb.1 U]at this;omega);have hF:Q1 (λc=>c=P.S.cb) K ((K.alloc (.cells #[I Z E,I Z C] 40)).setCell ⟨P.S.cb,P.S.o+B.toNat * 5+4,N⟩ (A (R ⟨K,0,N⟩) 1 1)):=Q1.setCell (X:=λc=>c=P.S.cb) (p:=⟨P.S.cb,P.S.o+B.toNat * 5+4,N⟩) ((Q1.refl _ _).alloc _) rfl _;have DI:=n.o.pool.mem.ne;exact⟨(Qa (pM p) B [(E,C)],pW p,pA p),_,qh (n.o.trans AB (n.o.pool.stM hm (hF.mono λc hc=> .inr (Q20 hc)) (Qc.of_frame hF DI.1 _ _) (λb U=>(Y0 U).elim (λh=>(At0.1 h).elim (λh=> .inl (DG.o b (Ag _ h)).1) λh=> .inr (by rw[Bb.1 h];omega)) .inl))),qh rfl,qh hk,qh (by rw[A8.o];rfl)⟩
  clear A3
 rotate_left
 focus
  have hq:=λw=>Q3a L.o.1.1 L.o.1.2 L.o.2.1 L.o.2.2 w;have AA:(2==E && B==C)=Bm:=by simp only[Hk,beq_eq_false_iff_ne];omega
  have A8:=D (Ja (pM p) (Q3 p k)=(Qd (pM p) B,(wP (Q3 p k),wV (Q3 p k),wX (Q3 p k),((Q2n (pM p) B).getD 0 (0,0),(E,C))::(wL (Q3 p k)).drop 1,wC (Q3 p k)))) (by have B4:(((2:Int),B)==(E,C))=Bm:=AA;unfold Ja;rw[AE.o];simp only[B4];rw[if_pos (by rfl),if_pos hw0]);simp only[AA,Hr]at hq;have DA:=qh hn;have DB:=qh hw0;obtain⟨pw,cw,Gd,Gw,f4,AC,-,-,-⟩:=g.o.pool.mem.focusW (i:=B) (by omega);have AH:0<(aW (Q7 (mC (pM p)) B)).length:=hw0;obtain⟨bw,ow,rfl,BW⟩:=Rd.elem AC.rd 0 AH;have HZ:=D ((Q2n (pM p) B).getD 0 (0,0)=((aW (Q7 (mC (pM p)) B))[0].1,(aW (Q7 (mC (pM p)) B))[0].2)) (by unfold Q2n;rw[Ab,Ad AH];rfl);obtain⟨z0,z1,BX,BY⟩:=At.word (t:=(aW (Q7 (mC (pM p)) B))[0].1) (a:=(aW (Q7 (mC (pM p)) B))[0].2) BW;simp only[Ty.sz,Bj,Dm,Cw]at z0 z1;generalize (aW (Q7 (mC (pM p)) B))[0].1=zt at *
  generalize (aW (Q7 (mC (pM p)) B))[0].2=za at *
  have BZ:=qh (And.intro BX BY);obtain⟨_,_,m0,-,-,-,-,-,-,-,-⟩:=g.o.pool.mem.head;have AI:=g.o.pool.mem.cells.bound;unfold Bu at AI;obtain⟨DC,DD⟩:=AI;have EQ:(0:Int)<(aW (Q7 (mC (pM p)) B)):=by omega
  clear hn hw0 AA AC BW BX BY;go_wp2_with fail
  go_quiet(fail)
  refine Qp λK A6=> ?_;have A4:=D (w,K) (by rw[A6];exact Q8 AP _);have V:Qh0 W2 K:=by rw[A6];exact(Am (Q8 (Ai _ _) _))
  have x0:=V.cell _ _ x0;have s:=V.cell _ _ s;have y0:=V.cell _ _ y0;have y1:=V.cell _ _ y1;have f4:=V.cell _ _ f4;have z0:=V.cell _ _ z0;have z1:=V.cell _ _ z1;have DJ:=jC A4 c3;have DK:=qh (CG.o.focus CI 0 hl);obtain⟨b',o',us,Gz,C0,DL,DM,-,-,-,DN,C1,C2,C3,C4⟩:=DK.o;have DO:=qh (Va (t:=Z7) rfl C3);have DP:=qh DL;simp only[Bt,Cq,and_true]at C0;obtain⟨rfl,rfl⟩:=C0;have ER:=λq=>((Ay (X:=λ_=>False) A4).frozen DM (λh=>h) q).trans (C2 q);obtain⟨u0,u1,u2,u3,rfl⟩:=Qnj DN;obtain⟨q0,q1,q2,q3⟩:=Qqr C1;have q0:=jC A4 q0;have q1:=jC A4 q1;have q2:=jC A4 q2;have q3:=jC A4 q3;simp only[Dm,Cw]at q0 q1 q2 q3;have DQ:=qh C4;clear A6 V m0 C2 C3 C1 C4;go_wp2_with fail
  go_still_tail 13,(by kernel_rfl)
  go_wp2_with fail
  refine Qp λM A3=> ?_;have C5:=D (∃P',Z4 w P pb z M (Q08 p k (Q9s (Q3 p k) (((zt,za),(E,C))::(wL (Q3 p k)).drop 1))) P') (by
   rw[A3];have DR:Q1 (λc=>c=G) K ((((K.setCell ⟨G,H,N⟩ (I Z zt)).setCell ⟨G,H+1,N⟩ (I Z za)).setCell ⟨G,H+2,N⟩ (I Z E)).setCell ⟨G,H+3,N⟩ (I Z C)):=Q6t (X:=λc=>c=G) (Q1.refl _ _) rfl _ _ _ _;have C6:Q1 (λc=>c=G) w (((((K.setCell ⟨G,H,N⟩ (I Z zt)).setCell ⟨G,H+1,N⟩ (I Z za)).setCell ⟨G,H+2,N⟩ (I Z E)).setCell ⟨G,H+3,N⟩ (I Z C)).drew):=((Ay A4).trans DR).drew
   have DS:Qc G H 4 w (((((K.setCell ⟨G,H,N⟩ (I Z zt)).setCell ⟨G,H+1,N⟩ (I Z za)).setCell ⟨G,H+2,N⟩ (I Z E)).setCell ⟨G,H+3,N⟩ (I Z C)).drew):=
    ((((((Qc.refl G H 4 w).fr (Ay (X:=λ_=>False) A4) (λh=>h)).set H (by omega) _).set (H+1) (by omega) _).set (H+2) (by omega) _).set (H+3) (by omega) _).drew
   have DT:Qy2 (((((K.setCell ⟨G,H,N⟩ (I Z zt)).setCell ⟨G,H+1,N⟩ (I Z za)).setCell ⟨G,H+2,N⟩ (I Z E)).setCell ⟨G,H+3,N⟩ (I Z C)).drew) G H [I Z zt,I Z za,I Z E,I Z C]:=λj hj=>Qld q0 q1 q2 q3 (I Z zt) (I Z za) (I Z E) (I Z C) j hj;have ho:=DQ.o _ [I Z zt,I Z za,I Z E,I Z C] ((zt,za),(E,C)) (C6.mono λc hc=> .inl hc) (by simp only[Dm,Cw];exact DS) (by simp only[Dm,Cw];exact DT) (by rw[DO.o];exact Ow.link BZ.o.1 BZ.o.2 L.o.2.1 L.o.2.2);have:=CH.o _ ((wL (Q3 p k)).set 0 ((zt,za),(E,C))) (C6.mono λc hc=>hc▸DP.o) ho;rw[show(wL (Q3 p k)).set 0 ((zt,za),(E,C))=((zt,za),(E,C))::(wL (Q3 p k)).drop 1 from by
    have:0<(wL (Q3 p k)).length:=hl;match wL (Q3 p k),this with
    |x::r,_=>rfl]at this
   exact this)
  obtain⟨d,B5⟩:=C5.o;have C7:=qh B5;have DU:=D (Zh M.drew pb z (pM p) d.S) (B5.drew.pool.mem);have s:=(show M.cell? ⟨w,1,N⟩=R (I Z B)by rw[A3];exact Qo (X:=λc=>c=G) (Q6t (X:=λc=>c=G) (Q1.refl _ _) rfl _ _ _ _) s (λe=>by omega));clear A3 B5 C5 q0 q1 q2 q3 z0 z1 y0 y1 f4 DJ x0;go_still_tail 5,(by kernel_rfl)
  go_wp2_with((go_at_call 219;(with_reducible refine(Q95 _ _ _ _ _ DU B BE BF).mono ?_);rintro e W5 ⟨rfl,hm,hf,AG⟩;have DV:=qh hm;have AJ:=qh hf;have DW:=qh AG;clear hm hf AG))
  refine bodyPost_ret (v:=.tuple #[]) (by simp[results,results190,go_sem]) rfl ⟨rfl, ?_⟩;have h5:=C7.o.drew.pool.stM DV (AJ.o.mono λc hc=>hc.imp id Q20) DW (λb U=>(Y0 U).elim (λh=>by simp at h) .inl);rw[A8.o,HZ.o];exact⟨_,C7.o.drew.trans AB h5⟩
 all_goals
  obtain⟨ES,A7,C8,d3,AK,-,C9,CA,-⟩:=A0.o.pool.focL B3;rw[B0.o]at d3 AK;have AD:d.wb=P.wb/\d.wo=P.wo:=⟨A0.o.fresh.1,A0.o.fresh.2.1⟩;obtain⟨AR,AS,rfl,-⟩:=Rd.elem AK.rd 0 hl;have DX:(wL (Q3 p k))<=A7:=by obtain⟨_,_,he,h1,_⟩:=Jh AK.rd;simp only[List.cons.injEq,Value.slice.injEq,and_true]at he;omega
  have DY:=qh AK;have CB:=qh CA;have CC:=λq=>A0.o.pool.wks.blk.free q;have AT:=A0.o.pool.wks.blk.lt;rw[AD.1]at CC AT;rw[AD.1,AD.2]at d3;have AU:=D (∃u,(if 1=A7 then A (R ⟨AR,AS,N⟩) 0 0 else A (R ⟨AR,AS+4,N⟩) ((wL (Q3 p k)).length-1) (A7-1))=u/\Rd (.slice Z7) M [u] ((wL (Q3 p k)).drop 1)) (by
   by_cases e:1=A7
   ·rw[if_pos e,Ey (by omega)];exact⟨_,rfl,Rd.none1 rfl⟩
   rw[if_neg e];exact⟨_,rfl,DY.o.rd.tail hl (by omega)⟩)
  obtain⟨il,DZ,E0,E1,E2⟩:=Ck Q1d;have AV:=qh AD;have CD:=D (¬P.wb∈C8) (λe=>(C9 _ e).2.2.1 AD.1.symm);have ET:1<=(wL (Q3 p k)).length:=hl;have E3:(1:Int)<=(wL (Q3 p k)):=by omega
  have EU:(1:Int)<=A7:=by omega
  clear AK CA C9 AD;by_cases e1:1=A7
  ·subst e1
   have CE:=D (Rd (.slice Z7) M [A (R ⟨AR,AS,N⟩) 0 0] ((wL (Q3 p k)).drop 1)) (by obtain⟨u,hu,hr⟩:=AU.o;rw[if_pos rfl]at hu;rw[hu];exact hr);have E4:(wL (Q3 p k)).length=1:=by omega
   rw[E4]at d3 E3;clear AU DX;go_wp2_with fail
   go_end0
   refine⟨rfl, ?_⟩;rw[<-World.setCell_alloc_past _ _ _ _ AT];obtain⟨P5,h5⟩:=CB.o (M.alloc (.cells #[] 146)) (R ⟨M,0,N⟩) 0 0 [] [] ((Q1.refl _ _).alloc _) ⟨_,rfl,.inl ⟨rfl,rfl,_,rfl,λx hx=>by cases hx;rfl⟩⟩ (by simp) (by simp);rw[AV.o.1,AV.o.2]at h5;rw[AQ.o,Ey (by omega)];exact⟨P5,A0.o.trans AB h5⟩
  have CE:=D (Rd (.slice Z7) M [A (R ⟨AR,AS+4,N⟩) ((wL (Q3 p k)).length-1) (A7-1)] ((wL (Q3 p k)).drop 1)) (by obtain⟨u,hu,hr⟩:=AU.o;rw[if_neg e1]at hu;rw[hu];exact hr);have EV:(1:Int)<A7:=by omega
  clear AU;go_wp2_with(at_builtin;refine Ql _ rfl (.tmp 126) (.tmp 131) 114 rfl (t:=Z7) (v:=A (R ⟨M,0,N⟩) 0 0) (xs:=[]) (ys:=(wL (Q3 p k)).drop 1) rfl (by decide) M 146 il _ 32 underlying114 DZ E0 E1 E2 rfl (by decide) rfl rfl (Q0d M _ rfl rfl) (CE.o.kb (by go_grown)) (by simp;omega) (by simp) ?_;intro v5 w5 AW CF;simp only[Bs]at AW;obtain⟨p5,c5,rfl,-,-⟩:=AW.form;have E5:=qh AW;have AJ:=qh (Q1.grown ((Q1.refl (λb=>b∈C8) M).alloc _) CF (λb U=> .inl (by cases U;exact Aj _)));have d5:=(AJ.o.cell AT CD (P.wo+k * 5+3)).trans d3;have f5:=λq=>(AJ.o.frozen AT CD q).trans (CC q);clear AW CF)
  go_end0
  refine⟨rfl, ?_⟩;obtain⟨F,ho,hn,r⟩:=E5.o.ow rfl;obtain⟨P5,h5⟩:=CB.o w5 p5 _ c5 _ F AJ ho hn (λb U=> .inr (r b U).1);rw[AV.o.1,AV.o.2]at h5;simp only[List.length_drop]at h5;rw[AQ.o];exact⟨P5,A0.o.trans AB h5⟩
theorem Qn.thru{B w w' C S S' pb po m E l l'}(h:Qn B C pb po w m S l)(k:Qn w S pb po w' E S' l'):Qn B C pb po w' E S' l':=
 h.step k.mem k.free k.fresh k.fr k.keep
def Qws(w:Bh)(a b c d T)(U V X:TypeId):
  ((((w.alloc (.cells a T)).alloc (.cells b U)).alloc (.cells c V)).alloc (.cells d X)).heap[w.heap.size]?=R (.cells a T (0,0))/\
  ((((w.alloc (.cells a T)).alloc (.cells b U)).alloc (.cells c V)).alloc (.cells d X)).heap[w.heap.size+1]?=R (.cells b U (0,0))/\
  ((((w.alloc (.cells a T)).alloc (.cells b U)).alloc (.cells c V)).alloc (.cells d X)).heap[w.heap.size+2]?=R (.cells c V (0,0))/\
  ((((w.alloc (.cells a T)).alloc (.cells b U)).alloc (.cells c V)).alloc (.cells d X)).heap[w.heap.size+3]?=R (.cells d X (0,0)):=by
 obtain⟨B,C⟩:=Jt w a b T U;obtain⟨E,F⟩:=Jt ((w.alloc (.cells a T)).alloc (.cells b U)) c d V X;have e:((w.alloc (.cells a T)).alloc (.cells b U)).heap.size=w+2:=by simp
 grind[Z3]
def Qd9(ka kb:Int)(en:Wd)(s:Qyb×Wd)(a b:Wd):Qyb×Wd:=
 if a.1==0 && b.2==0 then(s.1,((1:Int),kb))
 else if a.1==0 then(Qm s.1 kb (b.2-1) en,en)
 else if decide (0<a.2) && decide (0<b.2)then(Qm (Qm (Qw s.1) ka (a.2-1) (2,mF s.1)) kb (b.2-1) (2,mF s.1),s.2)
 else if decide (0<a.2)then(Qm s.1 ka (a.2-1) (1,kb),s.2)
 else if decide (0<b.2)then(Qm s.1 kb (b.2-1) (1,ka),s.2)
 else s
def Qk2(n:Qy0):(Yw n).length<=(Qk n):=by
 grind[Yw]
structure Qxx (wo W2:Bh) (S':MS) (pb po:Nat) (v15:Value) (ws:List Qy3) (g:Nat) (a b x y rt:Wd) (W:Bh) (m:Qyb) (S:MS) (l:List Nat):Prop where
 st:Qn wo S' pb po W m S l
 wi:∃F,Ow (.slice Z7) W [v15] ws F/\F.Nodup/\∀c∈F,W2.heap.size<=c/\c∉S.all/\c<g
 root:W.heap[wo.heap.size]?=R (.cells #[I Z rt.1,I Z rt.2] 40 (0,0))
 ba:W.heap[g]?=R (.cells #[I Z a.1,I Z a.2] 207 (0,0))
 bb:W.heap[g+1]?=R (.cells #[I Z b.1,I Z b.2] 207 (0,0))
 bx:W.heap[g+1+1]?=R (.cells #[I Z x.1,I Z x.2] 40 (0,0))
 by_:W.heap[g+1+1+1]?=R (.cells #[I Z y.1,I Z y.2] 40 (0,0))
 sep:wo.heap.size∉S.all/\∀i,i<4->g+i∉S.all
 hg:wo.heap.size<W2.heap.size/\W2.heap.size<=g
section
variable {wo W2 W W':Bh} {S' S:MS} {pb po g:Nat} {v15:Value} {ws:List Qy3} {a b x y rt:Wd} {m:Qyb} {l:List Nat}
theorem Qxx.start{wr}(h:Qn wo S' pb po wr m S l)(E:Je Z7 W2 S wr v15 ws)(G:wr.heap[wo.heap.size]?=R (.cells #[rt.1,rt.2] 40))(H:wo.heap.size∉S.all)(J:wo.heap.size<W2)(K:W2.heap.size<=wr):
  Qxx wo W2 S' pb po v15 ws wr a b (0,0) (0,0) rt ((((wr.alloc (.cells #[a.1,a.2] 207)).alloc (.cells #[b.1,b.2] 207)).alloc (.cells #[(),()] 40)).alloc (.cells #[(),()] 40)) m S l:=by
 have C:Below wr wr ((((wr.alloc (.cells #[a.1,a.2] 207)).alloc (.cells #[b.1,b.2] 207)).alloc (.cells #[(),()] 40)).alloc (.cells #[(),()] 40)):=by go_grown
 obtain⟨q0,q1,L,M⟩:=Qws wr #[a.1,a.2] #[b.1,b.2] #[(),()] #[(),()] 207 207 40 40;obtain⟨F,o,n,r⟩:=E;have O:=h.mem.lt;refine⟨h.below C,⟨F,o.kept λc B=>C.block c (o.lt c B),n,λc B=>⟨(r c B).1,(r c B).2,o.lt c B⟩⟩, ?_,q0,q1,L,M,⟨H,λi T P=>by have:=O _ (Aa _ P);omega⟩,J,K⟩;rw[C.block _ (by omega)];exact G
def Qxx.box(h:Qxx wo W2 S' pb po v15 ws g a b x y rt W m S l){G H J}(C:Q1 (λc=>c=wo\/c=g+1+1\/c=g+1+1+1) W W')(T:W'.heap[wo.heap.size]?=R (.cells #[J.1,J.2] 40))(U:W'.heap[g+1+1]?=R (.cells #[G.1,G.2] 40))(V:W'.heap[g+1+1+1]?=R (.cells #[H.1,H.2] 40)):
  Qxx wo W2 S' pb po v15 ws g a b G H J W' m S l:=by
 obtain⟨L,⟨F,o,n,r⟩,i,M,O,j,k,⟨P,K⟩,X,Y⟩:=h;have d:=(Al.1 M).1;have f:=(Al.1 O).1;refine⟨L.other C λc E=>⟨λB=> ?_,by omega⟩,⟨F,o.frame C λc E=>⟨o.lt c E,λe=>by have:=r c E;omega⟩,n,r⟩,T, ?_, ?_,U,V,⟨P,K⟩,X,Y⟩
 ·rcases Aq.1 B with e|B
  ·have:=L.pl;omega
  rcases E with rfl|rfl|rfl
  ·exact P B
  ·exact K 2 (by omega) B
  exact K 3 (by omega) B
 ·rw[C.block _ d (by omega)];exact M
 rw[C.block _ f (by omega)];exact O
theorem Qxx.drew(h:Qxx wo W2 S' pb po v15 ws g a b x y rt W m S l):Qxx wo W2 S' pb po v15 ws g a b x y rt W.drew m S l:=
 h.box (Q1.refl _ _).drew h.root h.bx h.by_
def Qxx.setX(h:Qxx wo W2 S' pb po v15 ws g a b x y rt W m S l)(t u):Qxx wo W2 S' pb po v15 ws g a b (t,u) y rt ((W.setCell (g+1+1,0) t).setCell (g+1+1,1) u) m S l:=by
 have B:Q1 (λc=>c=g+1+1) W ((W.setCell (g+1+1,0) t).setCell (g+1+1,1) u):=Vf (X:=λc=>c=_) (Q1.refl _ _) rfl _ _;have E:=h.hg;exact h.box (B.mono λc C=> .inr (.inl C)) ((B.block _ (Al.1 h.root).1 (by omega)).trans h.root) (Vs h.bx _ _) ((B.block _ (Al.1 h.by_).1 (by omega)).trans h.by_)
def Qxx.setY(h:Qxx wo W2 S' pb po v15 ws g a b x y rt W m S l)(t u):Qxx wo W2 S' pb po v15 ws g a b x (t,u) rt ((W.setCell (g+1+1+1,0) t).setCell (g+1+1+1,1) u) m S l:=by
 have B:Q1 (λc=>c=g+1+1+1) W ((W.setCell (g+1+1+1,0) t).setCell (g+1+1+1,1) u):=Vf (X:=λc=>c=_) (Q1.refl _ _) rfl _ _;have E:=h.hg;exact h.box (B.mono λc C=> .inr (.inr C)) ((B.block _ (Al.1 h.root).1 (by omega)).trans h.root) ((B.block _ (Al.1 h.bx).1 (by omega)).trans h.bx) (Vs h.by_ _ _)
def Qxx.setR(h:Qxx wo W2 S' pb po v15 ws g a b x y rt W m S l)(t u):Qxx wo W2 S' pb po v15 ws g a b x y (t,u) ((W.setCell (wo,0) t).setCell (wo,1) u) m S l:=by
 have B:Q1 (λc=>c=wo) W ((W.setCell (wo,0) t).setCell (wo,1) u):=Vf (X:=λc=>c=_) (Q1.refl _ _) rfl _ _;have E:=h.hg;exact h.box (B.mono λc C=> .inl C) (Vs h.root _ _) ((B.block _ (Al.1 h.bx).1 (by omega)).trans h.bx) ((B.block _ (Al.1 h.by_).1 (by omega)).trans h.by_)
def Qxx.mem{J G l' X}(h:Qxx wo W2 S' pb po v15 ws g a b x y rt W m S l)(B:Qn wo S' pb po W' J G l')(C:Q1 X W W')(hX:∀c,X c->c=pb\/c∈S.all)(H:∀c∈G.all,c∈S.all):Qxx wo W2 S' pb po v15 ws g a b x y rt W' J G l':=by
 obtain⟨V,⟨F,o,n,r⟩,K,L,M,O,P,⟨T,Y⟩,d,f⟩:=h;have j:=V.pl;have k:∀i,i<4->¬X (g+i):=λi U e=>by grind
 refine⟨B,⟨F,o.frame C λc E=>⟨o.lt c E,λe=> ?_⟩,n,λc E=>⟨(r c E).1,λB=>(r c E).2.1 (H c B),(r c E).2.2⟩⟩, ?_, ?_, ?_, ?_, ?_,⟨λB=>T (H _ B),λi U B=>Y i U (H _ B)⟩,d,f⟩
 ·grind
 ·rw[C.block _ (Al.1 K).1 (λe=>(hX _ e).elim (λe=>by omega) T)];exact K
 ·rw[C.block _ (Al.1 L).1 (k 0 (by omega))];exact L
 ·rw[C.block _ (Al.1 M).1 (k 1 (by omega))];exact M
 ·rw[C.block _ (Al.1 O).1 (k 2 (by omega))];exact O
 rw[C.block _ (Al.1 P).1 (k 3 (by omega))];exact P
def Qxx.newv{q:Nat}(h:Qxx wo W2 S' pb po v15 ws g a b x y rt W m S l){l'}(C:Qn wo S' pb po W' (Qw m) (S.put q []) l')(E:Q1 (λc=>c=pb\/c=S'.cb) W W'):Qxx wo W2 S' pb po v15 ws g a b x y rt W' (Qw m) (S.put q []) l':=
 h.mem C E (λc B=>B.imp id λe=>by rw[e,<-h.st.cb];exact Ae) λc B=>(Y0 B).elim (λh=>by simp at h) id
theorem Qxx.word(h:Qxx wo W2 S' pb po v15 ws g a b x y rt W m S l){i:Int}(G:i.toNat<(mC m))(H:i.toNat∉l){k:Nat}(J:k<(aW (Q7 (mC m) i))):
  ∃(B ow C:Nat),(W,S.cb,S.o+i.toNat * 5+4,A (R (B,ow)) (aW (Q7 (mC m) i)) C)/\((W,B,ow+k * 2,I Z ((aW (Q7 (mC m) i)).getD k (0,0)).1)/\(W,B,ow+k * 2+1,I Z ((aW (Q7 (mC m) i)).getD k (0,0)).2))/\(∀q,W.frozen? ⟨B,q,N⟩=Bm)/\(B∈S.all/\B<W)/\(aW (Q7 (mC m) i))<=C/\
   ∀t u,Qyn t->Qyn u->Qxx wo W2 S' pb po v15 ws g a b x y rt ((W.setCell (B,ow+k * 2) t).setCell (B,ow+k * 2+1) u) (Qa m i ((aW (Q7 (mC m) i)).set k (t,u))) S l:=by
 obtain⟨B,ow,C,K,L,M,E,O,P⟩:=h.st.wordAt G H J;exact⟨B,ow,C,K,L,M,⟨E.1,h.st.mem.lt _ (Aa _ E.1)⟩,O,λt u T U=>h.mem (P t u T U) (Vf (X:=λc=>c=B) (Q1.refl _ _) rfl _ _) (λc F=> .inr (by rw[F];exact E.1)) λc F=>F⟩
theorem Qxx.fin(h:Qxx wo W2 S' pb po v15 ws g a b x y rt W m S l):Je Z7 W2 S W v15 ws:=let ⟨F,o,n,r⟩:=h.wi;⟨F,o,n,λc B=>⟨(r c B).1,(r c B).2.1⟩⟩
theorem Qxx.cells(h:Qxx wo W2 S' pb po v15 ws g a b x y rt W m S l):
  ((W,wo.heap.size,0,rt.1)/\(W,wo.heap.size,1,rt.2))/\((W,g,0,a.1)/\(W,g,1,a.2))/\((W,g+1,0,b.1)/\(W,g+1,1,b.2))/\
  ((W,g+1+1,0,x.1)/\(W,g+1+1,1,x.2))/\((W,g+1+1+1,0,y.1)/\(W,g+1+1+1,1,y.2)):=
 ⟨⟨Q6 h.root rfl,Q6 h.root rfl⟩,⟨Q6 h.ba rfl,Q6 h.ba rfl⟩,⟨Q6 h.bb rfl,Q6 h.bb rfl⟩,⟨Q6 h.bx rfl,Q6 h.bx rfl⟩,⟨Q6 h.by_ rfl,Q6 h.by_ rfl⟩⟩
theorem Qxx.free(h:Qxx wo W2 S' pb po v15 ws g a b x y rt W m S l):(∀q,W.frozen? ⟨wo,q,N⟩=Bm)/\(∀q,W.frozen? ⟨g+1+1,q,N⟩=Bm)/\∀q,W.frozen? ⟨g+1+1+1,q,N⟩=Bm:=
 ⟨λq=>(show Q0u W wo 40 from⟨_,h.root⟩).free q,λq=>(show Q0u W (g+1+1) 40 from⟨_,h.bx⟩).free q,λq=>(show Q0u W (g+1+1+1) 40 from⟨_,h.by_⟩).free q⟩
end
end Go.Proofs.YtcjngpfigpglfaaGreatDoor
