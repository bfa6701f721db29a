import Derived.Test.YthbpkpnioaniiaaGreatP16
import Derived.Test.YthbpkpnioaniiaaGreatP20
set_option maxHeartbeats 40000000
set_option maxRecDepth 100000
set_option linter.all false
namespace Go.Proofs.YthbpkpnioaniiaaGreat
open Go.RowKit Go.Proofs.Tryz
open Go.Value renaming int->I,slice->A
open Go.IntKind renaming i64->Z
open Option renaming none->N,some->R
open Go renaming World->Bh,heap_alloc_new->Bg,maxLen->Bp,info_parts->Ch
open Go.Addr.mk renaming injEq->Ck
open Go.Ending renaming returned->Dj
open List renaming length_cons->Bs,not_mem_nil->Ed,nodup_nil->Hs
open Nat renaming reduceAdd->Bj,zero_mul->Db,one_mul->Hr,add_zero->Cq,zero_add->Cd,add_assoc->Hb,mul_one->Cb,le_of_lt->Ep
open Option.some renaming injEq->Bu
theorem Qk.trans{C w w':Bh}{E S S':MS}{pb B:Nat}{m F:Qqp}{l G:List Nat}(h:Qk C E pb B w m S l)(k:Qk w S pb B w' F S' G):Qk C E pb B w' F S' G:=
 h.step k.mem k.free k.fresh k.fr k.keep
theorem Y9.lo{B w1 w:Bh}{S:MS}{v:Value}{xs:List Qqt}(h:Y9 w1 S w v xs)(E:B.heap.size<=w1.heap.size):Y9 B S w v xs:=
 let ⟨F,o,n,r⟩:=h;⟨F,o,n,λb C=>⟨Au E (r b C).1,(r b C).2⟩⟩
theorem Q49.box{w w1:Bh}{T:TypeId}{k l v:Int}{d:List Int}{ws:List Wd}{E F:Option Addr}{H J:Nat}(K:Qqa Q3 w.heap.size w1 [I Z k,I Z l,I Z v,A E d.length H,A F ws.length J] (k,l,v,d,ws))(B:Below w.heap.size w w1):
  ∃G,Q49 Q3 (w1.alloc (.cells #[I Z k,I Z l,I Z v,A E d.length H,A F ws.length J] T)) w1.heap.size 0 (k,l,v,d,ws) G/\∀b∈w1.heap.size::G,w.heap.size<=b:=by
 obtain⟨G,o,n,r⟩:=K;refine⟨G,⟨_,rfl,Q11 (Q8 (Bg w1 _) rfl) (Q8 (Bg w1 _) rfl) (Q8 (Bg w1 _) rfl) (Q8 (Bg w1 _) rfl) (Q8 (Bg w1 _) rfl),o.kept λb B=>Az _ _ _ (r b B).2,by simp⟩,λb C=> ?_⟩;rcases Aq.1 C with rfl|C
 ·exact B.size
 ·exact(r b C).1
theorem Qom(w:Bh)(bv:Value)(bk:List Qr2)(pb po:Nat)(m:Qqp)(S:MS)(h:Z8 w pb po m S)(k a b:Int)(l:List Nat)(hl:Yf m l)(EO:0<=a)(ha:a<(mC m).length)(EP:0<=b)(hb:b<(mC m).length)(CH:a≠b)(CI:a.toNat∉l)(CJ:b.toNat∉l)
  (E:k≠7) (CK:Qd5 k (Q7 (mC m) a) (Q7 (mC m) b) l.length) (hz:((aD (Q7 (mC m) a)).length<=1000/\(aW (Q7 (mC m) a)).length<=1000)/\((aD (Q7 (mC m) b)).length<=1000/\(aW (Q7 (mC m) b)).length<=1000)) (hX:(mX m).length<=1000000):
  Calls prog 147 #[bv,.pointer (R ⟨pb,po,N⟩),I Z k,I Z a,I Z b] w λe w'=>∃Y S' M,e=.returned Y/\Qk w S pb po w' (Jf bk m k a b).1 S' M/\Y9 w S' w' Y (Jf bk m k a b).2:=by
 have EQ:=qh (Qk.start h hl);have ER:a.toNat<(mC m).length:=by omega
 have ES:b.toNat<(mC m).length:=by omega
 obtain⟨us,CL,CM,CN⟩:=h.cell ER;obtain⟨ut,CO,CP,CQ⟩:=h.cell ES;have CR:D (At Q3 w S.cb (S.o+a.toNat * 5) (Q7 (mC m) a)):=qh (⟨us,CL,CM,CN.rd⟩);have CS:D (At Q3 w S.cb (S.o+b.toNat * 5) (Q7 (mC m) b)):=qh (⟨ut,CO,CP,CQ.rd⟩);obtain⟨_,_,c0,-,-,-,-,-,-,-,-⟩:=h.head;have CT:=h.cells.bound;unfold Bp at CT;obtain⟨FR,FT⟩:=CT;have AG:=qh (Qdc bk m k a b E);have FU:(k==7)=false:=by simpa using E
 generalize Q7 (mC m) a=x at *
 generalize Q7 (mC m) b=y at *
 obtain⟨kx,lx,L,dx,A4⟩:=x;obtain⟨ky,s,J,dy,C⟩:=y;simp only[aD,aW]at hz;have HZ:=qh hz;have AV:=qh CK;have BT:D (pb<w.heap.size/\S.cb<w.heap.size):=qh (⟨h.lt pb Ae,h.lt S.cb (Aa _ Ae)⟩);have BF:=qh h.lt;have FV:=h.blk.lt;have FW:=h.cells.blk.lt;have ET:=qh CH;have EU:=qh CI;have EV:=qh CJ;clear h hl CL CM CN CO CP CQ CK hz E CH CI CJ;go_enter func147,ntmps147;go_upto_region 2 with(first|((go_at_call 99;(with_reducible refine(Q3l _ _ _ kx lx L dx A4 CR.o (by have:=HZ.o;omega) (by have:=HZ.o;omega)).mono ?_);rintro e w1 ⟨vs,rfl,hn,hb⟩;obtain⟨BU,BV,BW,BX,rfl⟩:=hn.agentShape;have CU:=qh hn;have AW:=qh hb;clear hn hb)))
 have CV:=qh (Q49.box (T:=134) CU.o AW.o);have BG:D (Below w.heap.size w (w1.alloc (.cells #[I Z kx,I Z lx,I Z L,A BU dx.length BV,A BW A4.length BX] 134))):=qh (AW.o.alloc AW.o.size _);have FX:=AW.o.size;have AN:w1.heap.size<(w1.alloc (.cells #[I Z kx,I Z lx,I Z L,A BU dx.length BV,A BW A4.length BX] 134)).heap.size:=by simp
 generalize w1.alloc (.cells #[I Z kx,I Z lx,I Z L,A BU dx.length BV,A BW A4.length BX] 134)=W2 at *
 have EW:=(Am BG.o).cell _ _ c0;clear CU;go_upto_region 3 with(first|((go_at_call 99;(with_reducible refine(Q3l _ _ _ ky s J dy C (CS.o.kept (Am BG.o)) (by have:=HZ.o;omega) (by have:=HZ.o;omega)).mono ?_);rintro e P ⟨vs,rfl,hn,hb⟩;obtain⟨CW,CX,CY,CZ,rfl⟩:=hn.agentShape;have D0:=qh hn;have AX:=qh hb;clear hn hb)))
 have D1:=qh (Q49.box (T:=134) D0.o AX.o);have BY:D (Below W2.heap.size W2 (P.alloc (.cells #[I Z ky,I Z s,I Z J,A CW dy.length CX,A CY C.length CZ] 134))):=qh (AX.o.alloc AX.o.size _);have EX:=AX.o.size;generalize P.alloc (.cells #[I Z ky,I Z s,I Z J,A CW dy.length CX,A CY C.length CZ] 134)=W4 at *
 have D2:=qh (EQ.o.below (BG.o.trans (BY.o.mono (by omega))));have BZ:D (b<(mC (Qg m a)).length/\b.toNat∉a.toNat::l):=qh (⟨by rw[Zk];exact hb,by simp only[List.mem_cons,not_or];exact⟨λe=>ET.o (by omega),EV.o⟩⟩);clear D0 c0 EW;go_upto_region 11 with(first|((go_at_call 139;(with_reducible refine(Q7j D2.o a EO ha EU.o).mono ?_);rintro e w5 ⟨rfl,hs,O⟩;have D3:=qh hs;have C0:=qh O;clear hs O))|((go_at_call 139;(with_reducible refine(Q7j D3.o b EP BZ.o.1 BZ.o.2).mono ?_);rintro e U ⟨rfl,hs,O⟩;have C1:=qh hs;have C2:=qh O;clear hs O)))
 have BH:D (∃G,Q49 Q3 (U.alloc (.cells #[] 120)) w1.heap.size 0 (kx,lx,L,dx,A4) G/\∀b∈w1.heap.size::G,w.heap.size<=b/\b<U.heap.size):=qh (by obtain⟨G,o,r⟩:=CV.o;have o6:=o.frame (X:=λc=>c=pb\/c=S.cb) ((Ay BY.o).trans (C0.o.trans C2.o)) (λc E e=>by have:=r c E;have:=BT.o;omega);exact⟨G,o6.frame (X:=λ_=>False) ((Q1.refl _ _).alloc _) (λ_ _ h=>h),λc E=>⟨by have:=r c E;omega,o6.lt c E⟩⟩);have AY:D (∃G,Q49 Q3 (U.alloc (.cells #[] 120)) P.heap.size 0 (ky,s,J,dy,C) G/\∀b∈P.heap.size::G,w.heap.size<=b/\b<U.heap.size):=qh (by obtain⟨G,o,r⟩:=D1.o;have o6:=o.frame (X:=λc=>c=pb\/c=S.cb) (C0.o.trans C2.o) (λc E e=>by have:=r c E;have:=BT.o;omega);exact⟨G,o6.frame (X:=λ_=>False) ((Q1.refl _ _).alloc _) (λ_ _ h=>h),λc E=>⟨by have:=r c E;omega,o6.lt c E⟩⟩);have D4:D (Below U.heap.size U (U.alloc (.cells #[] 120))):=qh (by go_grown);have d:=qh (C1.o.below D4.o);have EY:=qh (Vv (t:=Qu) (T:=120) U U.heap.size rfl rfl);have AH:D (∀c∈pb::((S.put a []).put b []).all,c<w.heap.size):=qh (λc E=>by
  rcases Aq.1 E with rfl|E
  ·exact BT.o.1
  ·rcases Zf E with h|h
   ·simp at h
   ·rcases Zf h with h|h
    ·simp at h
    ·exact BF.o c (Aa _ h))
 have FY:U.heap.size<(U.alloc (.cells #[] 120)).heap.size:=by simp
 have EZ:w.heap.size<=U.heap.size:=C1.o.fr.size;have FZ:D ((a.toNat:Int)=a/\(b.toNat:Int)=b):=qh (⟨by omega,by omega⟩);have D5:D ((mC (Qg (Qg m a) b)).length=(mC m).length):=qh (by rw[Zk,Zk]);have F0:D ((mX (Qg (Qg m a) b)).length<=1000000):=qh (hX);clear CV D1 BG BY C0 C2 D3 C1 D4 CR CS BZ D2 hX EX AW AX BF;generalize Qg (Qg m a) b=m2 at *
 generalize (S.put a []).put b []=S2 at *
 generalize U.alloc (.cells #[] 120)=W7 at *
 by_cases q3:k=3
 ·subst q3
  obtain⟨AZ,AJ⟩:=AV.o.2.1 rfl;obtain⟨f,x1,rfl⟩:∃f x1,A4=[f,x1]:=by
   match A4,AZ with
   | [f,x1],_=>exact⟨f,x1,rfl⟩
  have HD:D (∀e w',(∃Y S' M,e=Dj Y/\Qk W7 S2 pb po w' (Qd0 m2 (kx,lx,L,dx,[f,x1]) (ky,s,J,dy,C)).1 S' M/\Y9 W7 S' w' Y (Qd0 m2 (kx,lx,L,dx,[f,x1]) (ky,s,J,dy,C)).2)->∃Y S' M,e=Dj Y/\Qk w S pb po w' (Jf bk m 3 a b).1 S' M/\Y9 w S' w' Y (Jf bk m 3 a b).2):=qh (λe w' ⟨Y,S',M,h1,h2,h3⟩=>⟨Y,S',M,h1,by rw[AG.o];exact d.o.trans h2,by rw[AG.o];exact h3.lo d.o.fr.size⟩);obtain⟨Gx,ox,rx⟩:=BH.o;obtain⟨Gy,oy,ry⟩:=AY.o;have B0:=Qpd W7 pb po m2 S2 d.o.mem w1.heap.size 0 P.heap.size 0 kx lx L dx f x1 Gx ky s J dy C Gy ox oy (λc E H=>by have:=(rx c E).1;have:=AH.o c H;omega) (λc E H=>by have:=(ry c E).1;have:=AH.o c H;omega) b.toNat a.toNat l d.o.free AJ (by have:=HZ.o.2.1;omega) (by have:=HZ.o.2.2;omega);have HC:=qh B0;clear B0 ox rx oy ry AJ AZ;go_wp2_with((go_at_call 191;(with_reducible refine HC.o.mono ?_);rintro e w8 ⟨Y,S',M,rfl,h1,h2⟩;have H1:=qh h1;have H2:=qh h2;clear h1 h2))
  go_ret;exact HD.o _ _ ⟨Y,S',M,rfl,H1.o,H2.o⟩
 by_cases q6:k=6
 ·subst q6
  obtain⟨AJ,AO,B1,D6,D7⟩:=AV.o.2.2.2.2 rfl;have HD:D (∀e w',(∃Y S' M,e=Dj Y/\Qk W7 S2 pb po w' (Vy m2 (kx,lx,L,dx,A4) (ky,s,J,dy,C)).1 S' M/\Y9 W7 S' w' Y (Vy m2 (kx,lx,L,dx,A4) (ky,s,J,dy,C)).2)->∃Y S' M,e=Dj Y/\Qk w S pb po w' (Jf bk m 6 a b).1 S' M/\Y9 w S' w' Y (Jf bk m 6 a b).2):=qh (λe w' ⟨Y,S',M,h1,h2,h3⟩=>⟨Y,S',M,h1,by rw[AG.o];exact d.o.trans h2,by rw[AG.o];exact h3.lo d.o.fr.size⟩);obtain⟨Gx,ox,rx⟩:=BH.o;obtain⟨Gy,oy,ry⟩:=AY.o;have B0:=Qkf W7 pb po m2 S2 d.o.mem w1.heap.size 0 P.heap.size 0 kx lx L dx A4 Gx ky s J dy C Gy ox oy (λc E H=>by have:=(rx c E).1;have:=AH.o c H;omega) (λc E H=>by have:=(ry c E).1;have:=AH.o c H;omega) b.toNat (a.toNat::l) d.o.free (by simp only[Bs];exact AJ) (by have:=HZ.o.1.2;omega) AO B1 D6 D7 F0.o;have HC:=qh B0;clear B0 ox rx oy ry AJ AO B1 D6 D7;go_wp2_with((go_at_call 194;(with_reducible refine HC.o.mono ?_);rintro e w8 ⟨Y,S',M,rfl,h1,h2⟩;have H1:=qh h1;have H2:=qh h2;clear h1 h2))
  go_ret;exact HD.o _ _ ⟨Y,S',M,rfl,H1.o,H2.o⟩
 by_cases AP:k=1\/k=2
 ·obtain⟨AZ,D8⟩:=AV.o.1 AP
  obtain⟨f,x1,rfl⟩:∃f x1,A4=[f,x1]:=by
   match A4,AZ with
   | [f,x1],_=>exact⟨f,x1,rfl⟩
  obtain⟨y0,y1,rfl⟩:∃y0 y1,C=[y0,y1]:=by
   match C,D8 with
   | [y0,y1],_=>exact⟨y0,y1,rfl⟩
  have A1:D (Jf bk m k a b=(m2,[(f,y0),(x1,y1)])):=qh (by
   rw[AG.o];have:(k==1||k==2)=true:=by rcases AP with rfl|rfl<;>rfl
   rw[if_pos this];rfl)
  obtain⟨Gx,ox,rx⟩:=BH.o;obtain⟨Gy,oy,ry⟩:=AY.o;obtain⟨_,_,G0,D9,⟨-,-,-,-,x4⟩,-,G1,G2,rfl,-,BI⟩:=ox.agent;obtain⟨_,_,DA,A5,⟨-,-,-,-,y4⟩,-,G3,G4,rfl,-,A6⟩:=oy.agent;obtain⟨bx,A7,C3,DB⟩:=Rd.elem BI.rd 0 (by simp);obtain⟨G5,G6,C4,DC⟩:=Rd.elem BI.rd 1 (by simp);rw[C3]at C4;simp only[Bu,Ck,and_true]at C4;obtain⟨rfl,rfl⟩:=C4;obtain⟨by_,K,A8,DD⟩:=Rd.elem A6.rd 0 (by simp);obtain⟨G7,G8,C5,DE⟩:=Rd.elem A6.rd 1 (by simp);rw[A8]at C5;simp only[Bu,Ck,and_true]at C5;obtain⟨rfl,rfl⟩:=C5;obtain⟨e0,e1,DF,DG⟩:=At.word (t:=f.1) (a:=f.2) DB;obtain⟨e2,e3,DH,DI⟩:=At.word (t:=x1.1) (a:=x1.2) DC;obtain⟨f0,f1,DJ,DK⟩:=At.word (t:=y0.1) (a:=y0.2) DD;obtain⟨f2,f3,DL,DM⟩:=At.word (t:=y1.1) (a:=y1.2) DE;simp only[Ty.sz,Bj,Db,Hr,Cq,Cd,Hb]at x4 y4 e0 e1 e2 e3 f0 f1 f2 f3;have A3:D ((w1.heap.size≠U.heap.size/\bx≠U.heap.size)/\(P.heap.size≠U.heap.size/\by_≠U.heap.size)):=qh (⟨⟨by have:=(rx _ Ae).2;omega,by have:=(rx bx (Aa _ (Af _ (BI.block0 C3 (by simp))))).2;omega⟩,⟨by have:=(ry _ Ae).2;omega,by have:=(ry by_ (Aa _ (Af _ (A6.block0 A8 (by simp))))).2;omega⟩⟩);subst C3;subst A8;have F1:D (Q4e (.slice Qu) ([(f,y0),(x1,y1)]:List Qqt)):=qh (λz hz=>by
   simp only[List.mem_cons,Ed,or_false]at hz;rcases hz with rfl|rfl
   ·exact⟨⟨DF,DG⟩,⟨DJ,DK⟩⟩
   ·exact⟨⟨DH,DI⟩,⟨DL,DM⟩⟩)
  obtain⟨il,B2,B3,B4,B5⟩:=Ch Q0q;clear DB DC DD DE DF DG DH DI DJ DK DL DM BI A6 ox oy rx ry AZ D8
  have DN:∀W,Q1 (λc=>c=U.heap.size) W7 W->W.cell? ⟨w1.heap.size,4,N⟩=R (A (R ⟨bx,A7,N⟩) 2 D9)/\W.cell? ⟨bx,A7,N⟩=R (I Z f.1)/\W.cell? ⟨bx,A7+1,N⟩=R (I Z f.2)/\W.cell? ⟨bx,A7+2,N⟩=R (I Z x1.1)/\W.cell? ⟨bx,A7+3,N⟩=R (I Z x1.2)/\
    W.cell? ⟨P.heap.size,4,N⟩=R (A (R ⟨by_,K,N⟩) 2 A5)/\W.cell? ⟨by_,K,N⟩=R (I Z y0.1)/\W.cell? ⟨by_,K+1,N⟩=R (I Z y0.2)/\W.cell? ⟨by_,K+2,N⟩=R (I Z y1.1)/\W.cell? ⟨by_,K+3,N⟩=R (I Z y1.2):=λW O=>by
   have k1:=Q4w O x4 e0 e1 e2 e3 A3.o.1.1 A3.o.1.2 A3.o.1.2 A3.o.1.2 A3.o.1.2;have k2:=Q4w O y4 f0 f1 f2 f3 A3.o.2.1 A3.o.2.2 A3.o.2.2 A3.o.2.2 A3.o.2.2;exact⟨k1.1,k1.2.1,k1.2.2.1,k1.2.2.2.1,k1.2.2.2.2,k2.1,k2.2.1,k2.2.2.1,k2.2.2.2.1,k2.2.2.2.2⟩
  have BJ:=qh DN;clear DN;rcases AP with rfl|rfl
  all_goals
   go_wp2_with fail
   go_region_held3(λW=>W.cell? ⟨w1.heap.size,4,N⟩=R (A (R ⟨bx,A7,N⟩) 2 D9)/\W.cell? ⟨bx,A7,N⟩=R (I Z f.1)/\W.cell? ⟨bx,A7+1,N⟩=R (I Z f.2)/\W.cell? ⟨bx,A7+2,N⟩=R (I Z x1.1)/\W.cell? ⟨bx,A7+3,N⟩=R (I Z x1.2)/\W.cell? ⟨P.heap.size,4,N⟩=R (A (R ⟨by_,K,N⟩) 2 A5)/\W.cell? ⟨by_,K,N⟩=R (I Z y0.1)/\W.cell? ⟨by_,K+1,N⟩=R (I Z y0.2)/\W.cell? ⟨by_,K+2,N⟩=R (I Z y1.1)/\W.cell? ⟨by_,K+3,N⟩=R (I Z y1.2))
    (first|exact F2.o|with_reducible exact BJ.o _ (Q1.refl _ _).drew|with_reducible exact BJ.o _ ((Q1.refl _ _).drew.alloc _)|with_reducible exact BJ.o _ ((Q1.refl _ _).alloc _).drew)
    ((refine Yp _ rfl (.tmp 64) (.tmp 83) 97 rfl (t:=Qu) (v:=A (R ⟨U.heap.size,0,N⟩) 0 0) (xs:=[]) (ys:=[(f,y0),(x1,y1)]) rfl (by decide) U.heap.size 120 il _ 32 underlying97 B2 B3 B4 B5 rfl (by decide) rfl rfl (EY.o.kept (show Below W7.heap.size W7 _ from(Ai _ _).drew.alloc (Aj _) _)) ((Qqe.of_block (t:=Qu) (xs:=[(f,y0),(x1,y1)]) (B:=0) (g:=W7.heap.size) (Bg W7.drew _) (by omega) rfl rfl F1.o (by simp[Bp])).rd rfl) (by simp) (by simp;omega) ?_;intro v8 w8 DO DP;have F3:=qh (DO.eqL (List.nil_append _));have BK:=qh (Q1.grown (X:=λc=>c=U.heap.size) (a:=W7) ((Q1.refl _ W7).drew.alloc _) DP (λi hi=>by simp[Value.ownBlock]at hi;right;omega));have F2:=qh (BJ.o _ BK.o);clear DO DP))
   go_wp2_with fail
   go_ret;refine⟨_,S2,b.toNat::a.toNat::l,rfl, ?_, ?_⟩
   ·rw[A1.o];exact d.o.other BK.o (λc E=>⟨λH=>by have:=AH.o c H;omega,by omega⟩)
   ·rw[A1.o];exact Y9.ofOwn F3.o EZ (λc H=>by have:=AH.o c (Aa _ H);omega)
 by_cases q4:k=4
 ·subst q4
  have AJ:=AV.o.2.2.1 rfl;have A1:D (Jf bk m 4 a b=C.foldl Yn (m2,[])):=qh (by rw[AG.o];rfl);obtain⟨Gy,oy,ry⟩:=AY.o;obtain⟨_,_,DA,A5,-,-,C6,B6⟩:=oy.facts (pb:=pb) (S:=S2) (λc E H=>by have:=(ry c E).1;have:=AH.o c H;omega);unfold Bp at C6;have AL:=qh B6;have F4:P.heap.size<W7.heap.size:=oy.lt _ Ae;have DQ:=qh (Qk.start d.o.mem d.o.free);have DR:D (Y9 W7 S2 W7 (A (R ⟨U.heap.size,0,N⟩) 0 0) []):=qh (⟨[],⟨_,rfl,.inl ⟨rfl,rfl,_,rfl,λx hx=>by cases hx;rfl⟩⟩,by simp,by simp⟩);have F5:D (C.length<=(b.toNat::a.toNat::l).length+0):=qh (by simp only[Bs];exact AJ);have G9:C.length<=1000:=HZ.o.2.2;have DS:D (pb<W7.heap.size):=qh (d.o.mem.blk.lt);have C7:D ((mC m2).length<=9223372036854775807):=qh (by rw[D5.o];omega);clear B6 oy ry AJ;go_wp2_with fail
  go_loopw [14,15] (λu i wr=>∃(j:Nat) (S':MS) (M:List Nat),j<=C.length/\i=I Z j/\D (Qk W7 S2 pb po wr ((C.take j).foldl Yn (m2,[])).1 S' M)/\D (Y9 W7 S' wr u ((C.take j).foldl Yn (m2,[])).2)/\D (C.length<=M.length+j)/\D (((C.take j).foldl Yn (m2,[])).2.length=j)/\D ((mC ((C.take j).foldl Yn (m2,[])).1).length=(mC m2).length)) (λ_ i _=>C.length-(intOf i).toNat);case atStart=>exact⟨0,S2,b.toNat::a.toNat::l,Ak _,rfl,DQ.o,DR.o,F5.o,rfl,rfl⟩
  case round=>
   obtain⟨j,S',M,hj,rfl,HS,HO,DT,DU,DV⟩:=hrel;clear DQ DR;obtain⟨⟨-,-,-,-,y4⟩,-,A6⟩:=AL.o _ HS.o.fr;simp only[Cd]at y4;by_cases C8:j<C.length
   ·obtain⟨e,l2,rfl⟩:∃e l2,M=e::l2:=by
     match M,(show 0<M.length by have:=DT.o;omega)with
     |e::l2,_=>exact⟨e,l2,rfl⟩
    have BL:D ((C.take (j+1)).foldl Yn (m2,[])=Yn ((C.take j).foldl Yn (m2,[])) C[j]):=qh (by rw[An C8,List.foldl_append];rfl);generalize (C.take j).foldl Yn (m2,[])=Fj at *
    obtain⟨mj,oj⟩:=Fj;have HS:D (Qk W7 S2 pb po wr mj S' (e::l2)):=qh (HS.o);obtain⟨by_,K,A8,hE⟩:=Rd.elem A6 j C8;have GA:=qh A8;have AI:D (∀W,Q1 (λc=>c=pb\/c∈S2.all) W7 W->W.cell? ⟨P.heap.size,4,N⟩=R (A (R ⟨by_,K,N⟩) C.length A5)/\W.cell? ⟨by_,K+j * 2,N⟩=R (I Z C[j].1)/\W.cell? ⟨by_,K+j * 2+1,N⟩=R (I Z C[j].2)):=qh (λW O=>by obtain⟨⟨-,-,-,-,k4⟩,-,AQ⟩:=AL.o W O;obtain⟨b2,o2,AM,C9⟩:=Rd.elem AQ j C8;rw[A8]at AM k4;simp only[Bu,Ck,and_true]at AM;obtain⟨rfl,rfl⟩:=AM;have:=At.word (t:=C[j].1) (a:=C[j].2) C9;simp only[Ty.sz,Bj,Cd]at this k4;exact⟨k4,this.1,this.2.1⟩);have B7:D (Qqm C[j].1/\Qqm C[j].2):=qh ((At.word (t:=C[j].1) (a:=C[j].2) hE).2.2);have F6:D (C[j]=(C[j].1,C[j].2)):=qh (rfl);generalize C[j].1=wt at *
    generalize C[j].2=wa at *
    clear A8 hE A6 y4;obtain⟨y4,f0,f1⟩:=AI.o _ HS.o.fr;obtain⟨pu,cu,rfl⟩:=HO.o.form;obtain⟨Fo,DW⟩:=HO.o;have A9:=qh DW;have B8:D (mF mj=(e:Int)/\e<(mC mj).length):=qh (⟨(HS.o.first Z5).1,(HS.o.first Z5).2.1⟩);have CA:D (Qqm (e:Int)):=qh (by have h1:=B8.o.2;have h2:(mC mj).length=(mC m2).length:=DV.o;have:=C7.o;unfold Qqm;omega);obtain⟨il,B2,B3,B4,B5⟩:=Ch Q0q;have GB:(0:Int)<=j:=by omega
    have GC:(j:Int)<C.length:=by omega
    have GD:=HS.o.fr.size;have CB:D (∀q∈(S'.put (e:Int) []).all,q∈S'.all):=qh (λq H=>(Zf H).elim (λh=>by simp at h) id);have BF:=qh HS.o.mem.lt;have F7:D (S2.cb<W7.heap.size):=qh (d.o.mem.cells.blk.lt);clear DW;have CC:D (Qqm 5/\Qqm 0):=qh (by unfold Qqm;omega);have A3:D (∀q∈([]:List Nat),W7.heap.size<=q/\q∉pb::S'.all):=qh (by simp);have F8:D (∀W:Bh,Ow Q3 W [I Z 5,I Z 0,I Z 0,A N 0 0,A N 0 0] (5,0,0,[],[]) []):=qh (λW=>Ow.mkAgent CC.o.1 CC.o.2 CC.o.2 (Ow.nil _) (Ow.nil _));go_wp2_with fail
    go_region_held3(λW=>W.cell? ⟨P.heap.size,4,N⟩=R (A (R ⟨by_,K,N⟩) C.length A5)/\W.cell? ⟨by_,K+j * 2,N⟩=R (I Z wt)/\W.cell? ⟨by_,K+j * 2+1,N⟩=R (I Z wa))
     (first|with_reducible exact AI.o _ B9.o.fr|with_reducible exact AI.o _ AR.o.fr|with_reducible exact AI.o _ DX.o.fr|with_reducible exact AI.o _ DY.o.fr|with_reducible exact AI.o _ HS.o.drew.fr)
     (first|((go_at_call 192;(with_reducible refine(Q4v HS.o.drew 5 0 0 N N 0 0 0 0 (5,0,0,[],[]) [] (F8.o _) Hs (λq hq=>(A3.o q hq).2) (λq hq=>(A3.o q hq).1)).mono ?_);rintro e' w8 ⟨rfl,hs,O⟩;have DY:=qh hs;have BK:=qh (Q1.trans (show Q1 (λc=>c=pb\/c=S2.cb) wr _ from(Q1.refl _ wr).drew) O);clear hs O))|((go_at_call 189;(with_reducible refine(Vj _ (e:Int)).mono ?_);rintro e' w9 ⟨rfl,hb⟩;have DX:=qh (DY.o.below hb);have DZ:=qh (Q1.trans BK.o (Ay hb));have AR:=qh (DX.o.below (show Below w9.heap.size w9 (w9.alloc (.cells #[I Z wt,I Z wa,I Z 1,I Z e] 120))from(Ai _ _).alloc (Aj _) _));have F9:=DZ.o.size;clear hb))|((refine Y6 _ rfl (.tmp 98) (.tmp 109) 97 rfl (e:=Qu) 120 il _ 32 underlying97 B2 B3 B4 B5 rfl (by decide) (v:=A pu oj.length cu) (xs:=oj) (y:=((wt,wa),((1:Int),(e:Int)))) (vs:=[I Z wt,I Z wa,I Z 1,I Z e]) (F:=Fo) w9.heap.size 1 rfl rfl ((A9.o.1.frame DZ.o (λq hq=>⟨A9.o.1.lt q hq,λe'=>by have h1:=(A9.o.2.2 q hq).1;have:=DS.o;have:=F7.o;omega⟩)).kept λq hq=>Az _ _ _ (Ap (A9.o.1.lt q hq) F9)) A9.o.2.1 (Ow.link B7.o.1 B7.o.2 (by unfold Qqm;omega) CA.o) (Q81 (Q8 (Bg w9 _) rfl) (Q8 (Bg w9 _) rfl) (Q8 (Bg w9 _) rfl) (Q8 (Bg w9 _) rfl)) Qi2 (by have h9:oj.length=j:=DU.o;omega) ?_;intro GE GF FA FB BA BB AN AS;have FC:=qh BA;have FD:=qh BB;have FE:=qh AN;have B9:=qh (AR.o.other AS (λc E=>⟨λH=>(Aq.1 H).elim (λe'=>by have:=(A9.o.2.2 c E).1;have:=DS.o;omega) (λh=>(A9.o.2.2 c E).2 (CB.o c h)),(A9.o.2.2 c E).1⟩));clear BA BB AN AS)))
    go_wp2_with fail
    go_roundw;case rel=>exact⟨j+1,S'.put (e:Int) [],l2,by omega,by go_num,(show Qk _ _ _ _ _ _ _ _ by rw[BL.o];exact B9.o),(show Y9 _ _ _ _ _ by rw[BL.o,F6.o];show Y9 _ _ _ _ (oj++ [((wt,wa),((1:Int),mF mj))]);rw[B8.o.1];exact⟨FB,FC.o,FD.o,λq hq=>(FE.o q hq).elim (λh=>⟨(A9.o.2.2 q h).1,λH=>(A9.o.2.2 q h).2 (CB.o q H)⟩) (λe'=>⟨by rw[e'];simp;omega,λH=>by have:=BF.o q (Aa _ (CB.o q H));rw[e']at this;simp at this;omega⟩)⟩),(show _<=_ by have:=DT.o;simp only[Bs]at this;omega),(show _=_ by rw[BL.o];show(oj++ [_]).length=j+1;rw[List.length_append];have h9:oj.length=j:=DU.o;rw[h9];rfl),(show _=_ by rw[BL.o];show(mC (Qj mj _)).length=_;rw[Qd];exact DV.o)⟩
    case measure=>simp[intOf];omega
   ·have FF:C.length<=j:=by omega
    have E0:D (C.take j=C):=qh (Ao FF);go_wp2_with fail
    go_ret;refine⟨_,S',M,rfl, ?_, ?_⟩
    ·rw[A1.o];rw[E0.o]at HS;exact d.o.trans HS.o
    ·rw[A1.o];rw[E0.o]at HO;exact HO.o.lo d.o.fr.size
 by_cases q5:k=5
 ·subst q5
  obtain⟨BM,BN⟩:=AV.o.2.2.2.1 rfl;have AO:0<C.length:=by
   by_cases e8:ky=8
   ·exact(BM e8).2
   ·exact Ap (by omega) (BN e8)
  obtain⟨Gy,oy,ry⟩:=AY.o;obtain⟨GG,GH,DA,A5,iy,FG,C6,B6⟩:=oy.facts (pb:=pb) (S:=S2) (λc E H=>by have:=(ry c E).1;have:=AH.o c H;omega);obtain⟨Gx,ox,rx⟩:=BH.o;obtain⟨_,_,_,_,ix,-,-,E1⟩:=ox.facts (pb:=pb) (S:=S2) (λc E H=>by have:=(rx c E).1;have:=AH.o c H;omega);unfold Bp at C6 FG;have AL:=qh B6;have E2:=qh E1;have BO:=qh iy;have E3:=qh ix;have C7:D ((mC m2).length<=9223372036854775807):=qh (by rw[D5.o];omega);have GI:w1.heap.size<W7.heap.size:=ox.lt _ Ae;have F4:P.heap.size<W7.heap.size:=oy.lt _ Ae;clear B6 E1 iy ix oy ry ox rx;by_cases e8:ky=8;case' pos=>
   subst e8;have B1:0<dy.length:=(BM rfl).1;have A1:D (Jf bk m 5 a b=(Qj m2 (6,0,Jd J (dy.getD 0 0) L,[],[]),[(C.getD 0 (0,0),((1:Int),mF m2))])):=qh (by rw[AG.o];rfl);obtain⟨⟨k0,k1,k2,k3,-⟩,E4,-⟩:=AL.o _ (Q1.refl _ _);obtain⟨⟨-,-,x2,-,-⟩,-,-⟩:=E2.o _ (Q1.refl _ _);obtain⟨bd,od,E5,hD⟩:=Rd.elem E4 0 B1;obtain⟨d0,GJ⟩:=At.int hD;rw[E5]at k3;simp only[Ty.sz,Cb,Cd,Cq]at d0 k0 k1 k2 k3 x2;have E6:D (dy.getD 0 0=dy[0]):=qh (by rw[Ab,Ad B1];rfl);have GK:(0:Int)<dy.length:=by omega
   generalize dy[0]=dv at *
   clear E5 hD E4 BM BN;go_upto_region 25 with fail
   have A0:D (Below W7.heap.size W7 (W7.alloc (.cells #[I Z 6,I Z 0,I Z 0,A N 0 0,A N 0 0] 134))):=qh (by go_grown);have A2:=qh (Bg W7 (.cells #[I Z 6,I Z 0,I Z 0,A N 0 0,A N 0 0] 134));have BC:W7.heap.size<(W7.alloc (.cells #[I Z 6,I Z 0,I Z 0,A N 0 0,A N 0 0] 134)).heap.size:=by simp
   generalize W7.alloc (.cells #[I Z 6,I Z 0,I Z 0,A N 0 0,A N 0 0] 134)=V at *
   have k2:=(Am A0.o).cell _ _ k2;have k3:=(Am A0.o).cell _ _ k3;have x2:=(Am A0.o).cell _ _ x2;have d0:=(Am A0.o).cell _ _ d0;obtain⟨⟨r0,r1,r2,r3,r4⟩,rf⟩:=Y0 A2.o;go_still_tail 8,(by kernel_rfl)
   go_wp2_with((go_at_call 193;(with_reducible refine(Qix _ _ _ _).mono ?_);rintro e' w' ⟨rfl,rfl⟩))
   have E7:D (((V.setCell ⟨W7.heap.size,2,N⟩ (I Z (Jd J dv L))).drew).heap[W7.heap.size]?=R (.cells #[I Z 6,I Z 0,I Z (Jd J dv L),A N 0 0,A N 0 0] 134 (0,0))):=qh (Z2 A2.o);have E8:=qh (A0.o.setCell (p:=⟨W7.heap.size,2,N⟩) (Aj _) (I Z (Jd J dv L))).drew;have E9:D (∀W:Bh,Ow Q3 W [I Z 6,I Z 0,I Z (Jd J dv L),A N 0 0,A N 0 0] (6,0,Jd J dv L,[],[]) []):=qh (λW=>Ow.mkAgent (by unfold Qqm;omega) (by unfold Qqm;omega) (Q93 _ _ _) (Ow.nil _) (Ow.nil _));have AT:D (Jf bk m 5 a b=(Qj m2 (6,0,Jd J dv L,[],[]),[(C.getD 0 (0,0),((1:Int),mF m2))])):=qh (by rw[A1.o,E6.o]);clear A1 E6 k2 k3 x2 d0 rf r0 r1 r2 r3 r4;generalize (V.setCell ⟨W7.heap.size,2,N⟩ (I Z (Jd J dv L))).drew=W8 at *
   obtain⟨kc,lc,vc,AA,AB,AC,AD,AE,AF,yc,Gc,BP,EA,EB,BQ,A1⟩:∃(kc lc vc:Int) (AA:Option Addr) (AB AC:Nat) (AD:Option Addr) (AE AF:Nat) (yc:Qb) (Gc:List Nat),D (W8.heap[W7.heap.size]?=R (.cells #[I Z kc,I Z lc,I Z vc,A AA AB AC,A AD AE AF] 134 (0,0)))/\D (Below W7.heap.size W7 W8)/\D (Ow Q3 W8 [I Z kc,I Z lc,I Z vc,A AA AB AC,A AD AE AF] yc Gc)/\D (Gc.Nodup/\∀q∈Gc,W7.heap.size<=q)/\D (Jf bk m 5 a b=(Qj m2 yc,[(C.getD 0 (0,0),((1:Int),mF m2))])):=⟨6,0,Jd J dv L,N,0,0,N,0,0,(6,0,Jd J dv L,[],[]),[],E7,E8,qh (E9.o _),qh ⟨Hs,by simp⟩,AT⟩;clear A0 A2 BC E7 E8 E9 AT
  case' neg=>
   have EC:1<C.length:=BN e8;have ED:(ky==8)=false:=by simpa using e8
   have AT:D (Jf bk m 5 a b=(Qj m2 (8,s,J,[L],[C.getD 1 (0,0)]),[(C.getD 0 (0,0),((1:Int),mF m2))])):=qh (by rw[AG.o];show Q4r _ _ _=_;unfold Q4r;simp only[aK,ED];rfl);obtain⟨⟨k0,k1,k2,-,k4⟩,-,AQ⟩:=AL.o _ (Q1.refl _ _);obtain⟨⟨-,-,x2,-,-⟩,-,-⟩:=E2.o _ (Q1.refl _ _);obtain⟨bw,ow,EE,hE⟩:=Rd.elem AQ 1 EC;obtain⟨e0,e1,EF⟩:=At.word (t:=C[1].1) (a:=C[1].2) hE;rw[EE]at k4;simp only[Ty.sz,Bj,Cb,Hr,Cd,Cq,Hb]at e0 e1 k0 k1 k2 k4 x2;have CD:D (C.getD 1 (0,0)=(C[1].1,C[1].2)):=qh (by rw[Ab,Ad EC];rfl);have GL:(1:Int)<C.length:=by omega
   have BR:=qh EF;generalize C[1].1=zt at *
   generalize C[1].2=za at *
   clear EE hE AQ BM BN EF ED;go_upto_region 26 with fail
   have A0:D (Below W7.heap.size W7 (W7.alloc (.cells #[I Z 6,I Z 0,I Z 0,A N 0 0,A N 0 0] 134))):=qh (by go_grown);have A2:=qh (Bg W7 (.cells #[I Z 6,I Z 0,I Z 0,A N 0 0,A N 0 0] 134));have BC:W7.heap.size<(W7.alloc (.cells #[I Z 6,I Z 0,I Z 0,A N 0 0,A N 0 0] 134)).heap.size:=by simp
   generalize W7.alloc (.cells #[I Z 6,I Z 0,I Z 0,A N 0 0,A N 0 0] 134)=V at *
   have CE:bw≠W7.heap.size:=by have:=Ac W7 _ e0;simp only at this;omega
   have k1:=(Am A0.o).cell _ _ k1;have k2:=(Am A0.o).cell _ _ k2;have k4:=(Am A0.o).cell _ _ k4;have x2:=(Am A0.o).cell _ _ x2;have e0:=(Am A0.o).cell _ _ e0;have e1:=(Am A0.o).cell _ _ e1;obtain⟨⟨r0,r1,r2,r3,r4⟩,rf⟩:=Y0 A2.o;have l1:=Ac V _ k1;have l2:=Ac V _ x2;have l3:=Ac V _ e0;have BS:P.heap.size≠W7.heap.size:=by omega
   have EG:w1.heap.size≠W7.heap.size:=by omega
   have EH:D (∀W,Q1 (λc=>c=W7.heap.size) V W->W.cell? ⟨P.heap.size,1,N⟩=R (I Z s)/\W.cell? ⟨P.heap.size,2,N⟩=R (I Z J)/\W.cell? ⟨w1.heap.size,2,N⟩=R (I Z L)/\W.cell? ⟨P.heap.size,4,N⟩=R (A (R ⟨bw,ow,N⟩) C.length A5)/\W.cell? ⟨bw,ow+2,N⟩=R (I Z zt)/\W.cell? ⟨bw,ow+3,N⟩=R (I Z za)):=qh (λW O=>⟨Qf O k1 BS,Qf O k2 BS,Qf O x2 EG,Qf O k4 BS,Qf O e0 CE,Qf O e1 CE⟩)
   go_region_held3(λW=>W.cell? ⟨P.heap.size,1,N⟩=R (I Z s)/\W.cell? ⟨P.heap.size,2,N⟩=R (I Z J)/\W.cell? ⟨w1.heap.size,2,N⟩=R (I Z L)/\W.cell? ⟨P.heap.size,4,N⟩=R (A (R ⟨bw,ow,N⟩) C.length A5)/\W.cell? ⟨bw,ow+2,N⟩=R (I Z zt)/\W.cell? ⟨bw,ow+3,N⟩=R (I Z za))
    (((with_reducible refine EH.o _ ?_);(with_reducible refine Q1.drew ?_);(repeat(with_reducible refine Q1.alloc ?_ _));(first|with_reducible exact Q1.refl _ _|exact Q1c (X:=λc=>c=W7.heap.size) (Q1.refl (λc=>c=W7.heap.size) V) rfl _ _ _ _ _|fail)))
    (fail)
   all_goals
    refine Qq ?_;intro W8 EI;obtain⟨kc,lc,vc,AA,AB,AC,AD,AE,AF,yc,Gc,BP,EA,EB,BQ,A1⟩:∃(kc lc vc:Int) (AA:Option Addr) (AB AC:Nat) (AD:Option Addr) (AE AF:Nat) (yc:Qb) (Gc:List Nat),D (W8.heap[W7.heap.size]?=R (.cells #[I Z kc,I Z lc,I Z vc,A AA AB AC,A AD AE AF] 134 (0,0)))/\D (Below W7.heap.size W7 W8)/\D (Ow Q3 W8 [I Z kc,I Z lc,I Z vc,A AA AB AC,A AD AE AF] yc Gc)/\D (Gc.Nodup/\∀q∈Gc,W7.heap.size<=q)/\D (Jf bk m 5 a b=(Qj m2 yc,[(C.getD 0 (0,0),((1:Int),mF m2))])):=by
     rw[EI]
     first
      |exact⟨8,s,J,R ⟨V.heap.size,0,N⟩,1,1,R ⟨V.heap.size+1,0,N⟩,1,1,(8,s,J,[L],[(zt,za)]),[V.heap.size]++ [V.heap.size+1],qh (Q2b A2.o _ _ _ _ _ _ _ _ _).2.2.1,qh (A0.o.trans ((Q2b A2.o _ _ _ _ _ _ _ _ _).2.2.2.below (Ep BC) (λi e=>by omega))),qh (Ow.mkAgent (by unfold Qqm;omega) BO.o.2.1 BO.o.2.2 (Q9f (Q2b A2.o _ _ _ _ _ _ _ _ _).1 E3.o.2.2) (Q43 (Q2b A2.o _ _ _ _ _ _ _ _ _).2.1 BR.o.1 BR.o.2)),qh ⟨by simp,by simp;omega⟩,qh (by rw[AT.o,CD.o])⟩
      |exact⟨8,s,J,R ⟨V.heap.size+1,0,N⟩,1,1,R ⟨V.heap.size,0,N⟩,1,1,(8,s,J,[L],[(zt,za)]),[V.heap.size+1]++ [V.heap.size],qh (Q2b A2.o _ _ _ _ _ _ _ _ _).2.2.1,qh (A0.o.trans ((Q2b A2.o _ _ _ _ _ _ _ _ _).2.2.2.below (Ep BC) (λi e=>by omega))),qh (Ow.mkAgent (by unfold Qqm;omega) BO.o.2.1 BO.o.2.2 (Q9f (Q2b A2.o _ _ _ _ _ _ _ _ _).2.1 E3.o.2.2) (Q43 (Q2b A2.o _ _ _ _ _ _ _ _ _).1 BR.o.1 BR.o.2)),qh ⟨by simp,by simp;omega⟩,qh (by rw[AT.o,CD.o])⟩
    clear EI A0 A2 BC k1 k2 x2 k4 e0 e1 EH AT CD BS EG CE rf r0 r1 r2 r3 r4 l1 l2 l3
  all_goals
   generalize b.toNat=nb at *
   have AU:=qh ((Qk.start d.o.mem d.o.free).below EA.o);obtain⟨⟨-,-,-,-,y4⟩,-,A6⟩:=AL.o _ AU.o.fr;obtain⟨by_,K,A8,hE⟩:=Rd.elem A6 0 AO;have AI:D (∀n,Q1 (λc=>c=pb\/c∈S2.all) W7 n->n.cell? ⟨P.heap.size,4,N⟩=R (A (R ⟨by_,K,N⟩) C.length A5)/\n.cell? ⟨by_,K,N⟩=R (I Z C[0].1)/\n.cell? ⟨by_,K+1,N⟩=R (I Z C[0].2)):=qh (λn O=>by obtain⟨⟨-,-,-,-,k4⟩,-,AQ⟩:=AL.o n O;obtain⟨b2,o2,AM,C9⟩:=Rd.elem AQ 0 AO;rw[A8]at AM k4;simp only[Bu,Ck,and_true]at AM;obtain⟨rfl,rfl⟩:=AM;have:=At.word (t:=C[0].1) (a:=C[0].2) C9;simp only[Ty.sz,Bj,Cd,Db,Cq]at this k4;exact⟨k4,this.1,this.2.1⟩);have B7:D (Qqm C[0].1/\Qqm C[0].2):=qh ((At.word (t:=C[0].1) (a:=C[0].2) hE).2.2);have FH:D (C.getD 0 (0,0)=(C[0].1,C[0].2)):=qh (by rw[Ab,Ad AO];rfl);generalize C[0].1=wt at *
   generalize C[0].2=wa at *
   clear A8 hE A6 y4;obtain⟨y4,f0,f1⟩:=AI.o _ AU.o.fr;obtain⟨⟨r0,r1,r2,r3,r4⟩,-⟩:=Y0 BP.o;have FI:W7.heap.size<W8.heap.size:=(Al.1 BP.o).1;have B8:D (mF m2=(nb:Int)/\nb<(mC m2).length):=qh (⟨(AU.o.first Z5).1,(AU.o.first Z5).2.1⟩);have CA:D (Qqm (nb:Int)):=qh (by have h1:=B8.o.2;have:=C7.o;unfold Qqm;omega);obtain⟨il,B2,B3,B4,B5⟩:=Ch Q0q;have EJ:=qh d.o.mem.lt;have EK:D ((∀q∈Gc,q∉pb::S2.all)/\∀q∈Gc,W7.heap.size<=q):=qh (⟨λq hq H=>by have:=BQ.o.2 q hq;have:=EJ.o q H;omega,BQ.o.2⟩);have GM:(0:Int)<C.length:=by omega
   have BD:D (¬(W7.heap.size=pb\/W7.heap.size=S2.cb)):=qh (λh=>by have h1:=EJ.o pb Ae;have h2:=d.o.mem.cells.blk.lt;omega);have BE:D (∀n,Q1 (λc=>c=pb\/c∈S2.all) W7 n->Q1 (λc=>c=pb\/c=S2.cb) W8 n->(n.cell? ⟨P.heap.size,4,N⟩=R (A (R ⟨by_,K,N⟩) C.length A5)/\n.cell? ⟨by_,K,N⟩=R (I Z wt)/\n.cell? ⟨by_,K+1,N⟩=R (I Z wa))/\n.cell? ⟨W7.heap.size,0,N⟩=R (I Z kc)/\n.cell? ⟨W7.heap.size,1,N⟩=R (I Z lc)/\n.cell? ⟨W7.heap.size,2,N⟩=R (I Z vc)/\n.cell? ⟨W7.heap.size,3,N⟩=R (A AA AB AC)/\n.cell? ⟨W7.heap.size,4,N⟩=R (A AD AE AF)):=qh (λn h1 h2=>by obtain⟨⟨g0,g1,g2,g3,g4⟩,-⟩:=Y0 BP.o;exact⟨AI.o n h1,Q4w h2 g0 g1 g2 g3 g4 BD.o BD.o BD.o BD.o BD.o⟩);have FJ:D (Q1 (λc=>c=pb\/c=S2.cb) W8 W8.drew):=qh ((Q1.refl _ W8).drew);have GN:=FI;have FK:D (Qqm (1:Int)):=qh (by unfold Qqm;omega);have FL:D (([]:List Qqt).length+1<=1000000000):=qh (by simp);go_wp2_with fail
   go_region_held3(λW=>(W.cell? ⟨P.heap.size,4,N⟩=R (A (R ⟨by_,K,N⟩) C.length A5)/\W.cell? ⟨by_,K,N⟩=R (I Z wt)/\W.cell? ⟨by_,K+1,N⟩=R (I Z wa))/\W.cell? ⟨W7.heap.size,0,N⟩=R (I Z kc)/\W.cell? ⟨W7.heap.size,1,N⟩=R (I Z lc)/\W.cell? ⟨W7.heap.size,2,N⟩=R (I Z vc)/\W.cell? ⟨W7.heap.size,3,N⟩=R (A AA AB AC)/\W.cell? ⟨W7.heap.size,4,N⟩=R (A AD AE AF))
    (first|with_reducible exact BE.o _ EL.o.fr FM.o|with_reducible exact BE.o _ AR.o.fr EM.o|with_reducible exact BE.o _ CF.o.fr CG.o|with_reducible exact BE.o _ B9.o.fr EN.o|with_reducible exact BE.o _ AU.o.drew.fr FJ.o|fail)
    (first|((go_at_call 192;(with_reducible refine(Q4v AU.o.drew kc lc vc AA AD AB AC AE AF yc Gc (EB.o.kept λ_ _=>rfl) BQ.o.1 EK.o.1 EK.o.2).mono ?_);rintro e' FA ⟨rfl,hs,O⟩;have B9:=qh hs;have EN:=qh (Q1.trans (show Q1 (λc=>c=pb\/c=S2.cb) W8 _ from(Q1.refl _ W8).drew) O);clear hs O))|((go_at_call 189;(with_reducible refine(Vj _ (nb:Int)).mono ?_);rintro e' AK ⟨rfl,hb⟩;have CF:=qh (B9.o.below hb);have CG:=qh (Q1.trans EN.o (Ay hb));have AR:=qh (CF.o.below (show Below AK.heap.size AK (AK.alloc (.cells #[I Z wt,I Z wa,I Z 1,I Z nb] 120))from(Ai _ _).alloc (Aj _) _));have GO:=CG.o.size;have EM:=qh (CG.o.alloc (.cells #[I Z wt,I Z wa,I Z 1,I Z nb] 120));clear hb))|((refine Y6 _ rfl (.tmp 140) (.tmp 150) 97 rfl (e:=Qu) 120 il _ 32 underlying97 B2 B3 B4 B5 rfl (by decide) (v:=A (R ⟨U.heap.size,0,N⟩) 0 0) (xs:=[]) (y:=((wt,wa),((1:Int),(nb:Int)))) (vs:=[I Z wt,I Z wa,I Z 1,I Z nb]) (F:=[]) AK.heap.size 1 rfl rfl ⟨_,rfl,.inl ⟨rfl,rfl,_,rfl,λx hx=>by cases hx;rfl⟩⟩ Hs (Ow.link B7.o.1 B7.o.2 FK.o CA.o) (Q81 (Q8 (Bg AK _) rfl) (Q8 (Bg AK _) rfl) (Q8 (Bg AK _) rfl) (Q8 (Bg AK _) rfl)) Qi2 FL.o ?_;intro GP GQ GR FN BA BB AN AS;have FO:=qh BA;have FP:=qh BB;have FQ:=qh AN;have EL:=qh (AR.o.other AS (λc E=>absurd E Ed));have FM:=qh (Q1.trans EM.o (AS.mono λc E=>absurd E Ed));clear BA BB AN AS))|fail)
   go_wp2_with fail
   go_ret;refine⟨_,S2.put (nb:Int) Gc,a.toNat::l,rfl, ?_, ?_⟩
   ·rw[A1.o];exact d.o.trans EL.o
   ·rw[A1.o]
    show Y9 _ _ _ _ [(C.getD 0 (0,0),((1:Int),mF m2))];rw[FH.o,B8.o.1];refine⟨FN,FO.o,FP.o,λq hq=>(FQ.o q hq).elim (λh=>by simp at h) (λe'=>⟨by rw[e'];have:=d.o.fr.size;simp;omega,λH=> ?_⟩)⟩;have h1:=AR.o.mem.lt q (Aa _ H);rw[e']at h1;have h2:=CF.o.mem.lt q (Aa _ H);rw[e']at h2;simp at h2;omega
 have c1:¬k=1:=λh=>AP (.inl h);have c2:¬k=2:=λh=>AP (.inr h);have A1:D (Jf bk m k a b=(m2,[])):=qh (by rw[AG.o];simp[c1,c2,q3,q4,q5,q6]);clear AP;go_wp2_with fail
 go_ret;refine⟨_,S2,b.toNat::a.toNat::l,rfl, ?_, ?_⟩
 ·rw[A1.o];exact d.o
 ·rw[A1.o];exact⟨[],⟨_,rfl,.inl ⟨rfl,rfl,_,rfl,λx hx=>by cases hx;rfl⟩⟩,by simp,by simp⟩
end Go.Proofs.YthbpkpnioaniiaaGreat
