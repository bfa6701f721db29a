import Derived.Test.YthbpkpnioaniiaaGreatP26
import Derived.Test.YthbpkpnioaniiaaGreatP27
set_option maxHeartbeats 40000000
set_option maxRecDepth 100000
set_option linter.all false
namespace Go.Proofs.YthbpkpnioaniiaaGreat
open Go.RowKit Go.Proofs.Tryz
open Go.Value renaming int->I,slice->A
open Go.IntKind renaming i64->Z
open Option renaming none->N,some->R
open Go renaming World->Bh,heap_alloc_new->Bg,bodyPost_ret->Ca,Value->Bk
open Go.Addr.mk renaming injEq->Ck
open Go.RowKit.Below renaming heap_setCell->Eg
open Go.World renaming cell?_setCell_same->Bw
open List renaming mem_singleton_self->Ig,length_take->Cj,length_cons->Bs,length_drop->Df
open Option.some renaming injEq->Bu
def Qk9(bk:List Qr2)(p:J9)(k n:Nat)(w:Bh)(S:MS)(g:Nat)(e:Ending)(w':Bh):Prop:=
 ((Jv bk p k).2≠0->e=.returned (.tuple #[I Z 0,A N 0 0,I Z (Jv bk p k).2])/\Below w.heap.size w w')/\
 ((Jv bk p k).2=0->(n:Int)+Zm (Q0s p k)<(Jv bk p k).1->e=.returned (.tuple #[I Z 0,A N 0 0,I Z 4])/\Below w.heap.size w w')/\
 ((Jv bk p k).2=0->¬((n:Int)+Zm (Q0s p k)<(Jv bk p k).1)->∃v S' l',e=.returned (.tuple #[I Z (Q0s p k),v,I Z 0])/\Qk w S g 0 w' (Q1q bk p k).1 S' l'/\Yy Qu w S' w' v (Q1q bk p k).2)
theorem Qch(bk:List Qr2)(m:Qqp)(a b:Int):Jf bk m 7 a b=(Vo bk (Qg m a) (Q7 (mC m) a) b,[]):=by
 unfold Jf;simp only[];rw[if_pos (by rfl)]
theorem Qm9(A7 w:Bh)(BM:Below A7.heap.size A7 w)(p0:Option Addr)(c0:Nat)(bk:List Qr2)(BN:Rd (.slice Je) A7 [A p0 bk.length c0] bk)(EG:bk.length<=maxLen)(CQ:∀n∈bk,Ys n=true)(g:Nat)(p:J9)(k n:Nat)(S:MS)(h:Z8 w g 0 (Q4d p (wX (Q5 p k))) S)(hS:∀b∈g::S.all,A7.heap.size<=b)
  (B4:w.cell? ⟨g,5,N⟩=R (A p0 bk.length c0)) (z:(wX (Q5 p k)).length=n+1) (l:List Nat) (A1:Q9u bk p k l):
  Calls prog 177 #[.pointer (R ⟨g,0,N⟩),I Z n] w (Qk9 bk p k l.length w S g):=by
 have HM:=qh h;have HN:=qh z;have A2:=qh A1;have HS:=qh hS;have CR:=qh BM;have EH:=qh (BN.kept (Am BM));have EI:=qh BN;have CS:=qh EG;have CT:=qh CQ;obtain⟨px,cx,B5,-,-,-,c4,-,-,-,AK⟩:=h.head;replace c4:w.cell? ⟨g,4,N⟩=R (A px (wX (Q5 p k)).length cx):=c4;replace B5:w.cell? ⟨g,0,N⟩=R (A (R ⟨S.cb,S.o,N⟩) (mC (pM p)).length S.cap):=B5;replace AK:Ow (.slice Q4) w [A px (wX (Q5 p k)).length cx] (wX (Q5 p k)) S.Fx:=AK;obtain⟨bx,ox,rfl,hE⟩:=Rd.elem AK.rd n (by omega);obtain⟨CU,-,G9,EJ,T,EK,BO,-,-⟩:=AK.flatBlk rfl (by omega);have EL:=qh AK;have EM:=λq=>Q0f.free (T:=T) ⟨EJ,BO⟩ q;have EN:=Zb BO;have B6:=qh CU;have EO:D ((wX (Q5 p k))[n]'(by omega)=Ya (Q5 p k)):=qh (by have e:(wX (Q5 p k)).length-1=n:=(by omega);unfold Ya;rw[Ab,e,Ad (by omega)];rfl);rw[EO.o]at hE;obtain⟨⟨q0,q1⟩,hq⟩:∃r,Ya (Q5 p k)=r:=⟨_,rfl⟩;rw[hq]at hE;have HQ:=qh hq;obtain⟨e0,e1,i0,i1⟩:=hE.word;simp only[Ty.sz,Nat.reduceAdd]at e0 e1;have GC:=qh (And.intro i0 i1);have CV:=qh (And.intro e0 e1);have A6:=Qgf A1.rok;rw[hq]at A6;have EP:=qh A6;have B7:=Q05 A1.rok;rw[hq]at B7
 have BP:=qh (show Zy (aK (Q7 (mC (pM p)) q0)) (aL (Q7 (mC (pM p)) q0))=true/\Zy (aK (Q7 (mC (pM p)) q1)) (aL (Q7 (mC (pM p)) q1))=true from
  ⟨(Q4h (A1.cells _ (by have:=A6.1;simp only at this;omega)) B7.2.1).2.1,(Q4h (A1.cells _ (by have:=A6.2;simp only at this;omega)) B7.2.2).2.1⟩)
 have EQ:=qh (A1.small q0 A6.1.1 A6.1.2);have ER:=qh (A1.small q1 A6.2.1 A6.2.2);have ES:D (Z4 (mC (pM p)) (q0,q1)=7->0<=aV (xM (mC (pM p)) (q0,q1))/\0<=aL (xM (mC (pM p)) (q0,q1))/\aL (xM (mC (pM p)) (q0,q1))<=8):=qh (by have:=Q73 A1;rw[hq]at this;exact λe=>by have:=this e;omega);have ET:D ((aW (Q7 (mC (pM p)) q0)).length<=100000000):=qh (by have:=EQ.o;omega);have EU:D ((aW (Q7 (mC (pM p)) q1)).length<=100000000):=qh (by have:=ER.o;omega);have CW:D (Qq9 (mC (Q4d p (wX (Q5 p k)))) (q0,q1)):=qh (EP.o);have EV:D (Z4 (mC (Q4d p (wX (Q5 p k)))) (q0,q1)=7->0<=aV (xM (mC (Q4d p (wX (Q5 p k)))) (q0,q1))/\0<=aL (xM (mC (Q4d p (wX (Q5 p k)))) (q0,q1))/\aL (xM (mC (Q4d p (wX (Q5 p k)))) (q0,q1))<=8):=qh (ES.o);have CX:D ((aW (Q7 (mC (Q4d p (wX (Q5 p k)))) q0)).length<=100000000):=qh (ET.o);have CY:D ((aW (Q7 (mC (Q4d p (wX (Q5 p k)))) q1)).length<=100000000):=qh (EU.o);have CZ:D (Zy (aK (Q7 (mC (Q4d p (wX (Q5 p k)))) q0)) (aL (Q7 (mC (Q4d p (wX (Q5 p k)))) q0))=true/\Zy (aK (Q7 (mC (Q4d p (wX (Q5 p k)))) q1)) (aL (Q7 (mC (Q4d p (wX (Q5 p k)))) q1))=true):=qh (BP.o);have EW:=qh B4;have GD:=A1.len;have EX:D (l.length<=1500):=qh (by have:=A1.freeLen;have:=List.countP_le_length (p:=λc=>aK c==0) (l:=mC (pM p));unfold Z3 at *;omega);have B8:D (At Qo w g 0 (Q4d p (wX (Q5 p k)))):=qh (h.at);have HC:D (Jv bk p k=Zn bk (mC (pM p)) (q0,q1)/\Q0s p k=Z4 (mC (pM p)) (q0,q1)):=qh (by unfold Jv Q0s;rw[hq];exact⟨rfl,rfl⟩);have GE:=A1.xlen;rw[z]at c4;have GF:(n:Int)<((n+1:Nat):Int):=by omega
 have AQ:mC (Q4d p (wX (Q5 p k)))=mC (pM p):=rfl;have GG:(0:Int)<=n:=by omega
 have BQ:g<w.heap.size:=h.blk.lt;clear h A1 hS BM BN CQ AK hE i0 i1 A6 B7 CU BO hq;go_enter func177,ntmps177;go_upto_region 2 with fail
 refine Qq ?_;intro W1 BR;have AR:D (Below w.heap.size w W1):=qh (by rw[BR];go_grown);have BS:D (W1.heap[w.heap.size]?=R (.cells #[I Z q0,I Z q1] 117 (0,0))):=qh (by rw[BR];exact Bg w _);clear BR e0 e1;obtain⟨⟨O,x1⟩,-⟩:=Za BS.o;have D0:=(Am AR.o).cell _ _ B4;go_upto_region 3 with((go_at_call 206;(with_reducible refine(Qjg _ g (Q4d p (wX (Q5 p k))) (B8.o.kept (Am AR.o)) p0 c0 bk D0 (EH.o.kept (Am AR.o)) CS.o CT.o q0 q1 CW.o CX.o CY.o CZ.o.1 CZ.o.2 EV.o).mono ?_);rintro e W2 ⟨rfl,E⟩;rw[AQ];have B9:=qh (Q0 AR.o E);have D1:=qh (Qe BS.o E);clear E))
 have GH:=qh ((Am B9.o).cell _ _ B4);clear O x1 AR BS D0;obtain⟨⟨O,x1⟩,-⟩:=Za D1.o;obtain⟨G,BT⟩:∃G,Z4 (mC (pM p)) (q0,q1)=G:=⟨_,rfl⟩;obtain⟨⟨AL,AS⟩,BA⟩:∃c,Zn bk (mC (pM p)) (q0,q1)=c:=⟨_,rfl⟩;rw[BT,BA]at HC;rw[BA];simp only;have A0:=qh BT;have AM:=qh BA;clear BT BA;by_cases BB:AS=0;rotate_left
 ·have GI:(AS !=0)=true:=by simpa using BB
  have D2:=qh BB;clear BB;go_wp2_with fail
  refine Ca (v:=.tuple #[I Z 0,A N 0 0,I Z AS]) (by simp[results,results177,go_sem];first|rfl|done) rfl ?_;exact⟨λ_=>⟨by rw[HC.o.1],B9.o⟩,λe=>absurd ((by rw[HC.o.1]at e;exact e):AS=0) D2.o,λe=>absurd ((by rw[HC.o.1]at e;exact e):AS=0) D2.o⟩
 subst BB;have EY:G≠8:=λe=>by have U:=AM.o;unfold Zn at U;rw[A0.o,e]at U;simp at U
 obtain⟨⟨B,C⟩,hf⟩:∃f,Zl (mC (pM p)) (q0,q1)=f:=⟨_,rfl⟩;have D3:D (Ending.returned (.tuple #[I Z (Vr (Q7 (mC (Q4d p (wX (Q5 p k)))) q0) (Q7 (mC (Q4d p (wX (Q5 p k)))) q1)).1,I Z (Qr3 (mC (Q4d p (wX (Q5 p k)))) (q0,q1)).1,I Z (Qr3 (mC (Q4d p (wX (Q5 p k)))) (q0,q1)).2])=.returned (.tuple #[I Z G,I Z B,I Z C])):=qh (by obtain⟨U,h2⟩:=Qlb (cs:=mC (pM p)) (p:=(q0,q1)) BP.o.1 BP.o.2;have h3:=h2 (by rw[A0.o];exact EY);rw[hf]at h3;rw[A0.o]at U;rw[AQ,U,h3]);have BC:=qh hf;have D4:D (Z3 (mC (pM p))=l.length):=qh (A2.o.freeLen.symm);have D5:D ((mC (Q4d p (wX (Q5 p k)))).length<=1000000):=qh (by rw[AQ];omega);have GJ:(l.length:Int)<=1500:=by have:=EX.o;omega
 clear hf;go_upto_region 5 with fail
 (refine Z0 (λw'=>Below W2.heap.size W2 w') (by kernel_rfl) (by kernel_rfl) (Ai _ _).drew ?_;(repeat(first|go_big_quiet_skip|(go_big_quiet_want;apply Exists.intro;refine⟨λw' hC=> ?_, ?_⟩;(focus(have GK:=(Am hC).cell _ _ O;have GL:=(Am hC).cell _ _ x1;go_simp;first|done|with_reducible rfl|(((go_at_call 207;(with_reducible refine(Qat _ g 0 (Q4d p (wX (Q5 p k))) (B8.o.kept (Am (Q0 B9.o hC))) q0 q1 CW.o CX.o CY.o).mono ?_);exact λe w4 ⟨he,E⟩=>⟨he.trans D3.o,Q0 hC E⟩)))));simp only[Act.put,List.setIfInBounds_toArray,List.set_cons_zero,List.set_cons_succ];go_big_quiet_on)));refine wpQuiet_nil ?_;intro wz hz)
 have A9:=qh (Q0 B9.o hz);rename Bh=>W5
 clear O x1 D1 hz;have AA:=Qcl (cs:=mC (pM p)) (q0:=q0) (q1:=q1) (by have:=(Q05 A2.o.rok).1;rw[HQ.o]at this;exact this) l (by have:=A2.o.nin;rw[HQ.o]at this;exact this);have AN:xM (mC (pM p)) (q0,q1)=Q7 (mC (pM p)) B/\yM (mC (pM p)) (q0,q1)=Q7 (mC (pM p)) C:=by unfold xM yM;rw[BC.o];exact⟨rfl,rfl⟩
 rw[BC.o]at AA;have AO:=qh AA;have D6:D (AL<=l.length+Zm G->(1<=G/\G<=7)/\(G≠7->Qd5 G (Q7 (mC (pM p)) B) (Q7 (mC (pM p)) C) l.length)/\(G=7->Q8y bk (Q7 (mC (pM p)) B) l.length)):=qh (λe2=>by
  have hr:=A2.o.rok;rw[HQ.o]at hr;have h0:(Zn bk (mC (pM p)) (q0,q1)).2=0:=by rw[AM.o]
  obtain⟨U,h2⟩:=Qg0 bk A2.o.cells hr h0 (n:=l.length) (by rw[AM.o,A0.o];exact e2);rw[A0.o,AN.1,AN.2]at h2;rw[A0.o]at U;refine⟨U,h2,λh7=> ?_⟩;rw[<-AN.1];refine Qgv (by rw[A0.o];exact h7) h0 ?_ CT.o (by rw[AM.o];rw[h7]at e2;exact e2);have:=Q73 A2.o;rw[HQ.o]at this;exact this (by rw[A0.o];exact h7))
 have AT:D (Q1q bk p k=Jf bk (Q4d p ((wX (Q5 p k)).take n)) G B C):=qh (by
  have e:(wX (Q5 p k)).length-1=n:=by have:=HN.o;omega
  unfold Q1q;rw[HQ.o,e,A0.o,BC.o])
 have BD:=qh (show((aD (Q7 (mC (pM p)) B)).length<=4/\(aW (Q7 (mC (pM p)) B)).length<=3)/\((aD (Q7 (mC (pM p)) C)).length<=4/\(aW (Q7 (mC (pM p)) C)).length<=3)from
  ⟨A2.o.small B AA.1.1.1 AA.1.1.2,A2.o.small C AA.1.2.1 AA.1.2.2⟩)
 have BE:=(Am A9.o).cell _ _ c4;have BU:=(Am A9.o).cell _ _ B5;have EZ:g<W5.heap.size:=Ap BQ A9.o.size;clear c4 B5 AA B4;have F0:D (G=5->aK (Q7 (mC (pM p)) C)=7\/aK (Q7 (mC (pM p)) C)=8):=qh (λe5=>by
  have hr:=A2.o.rok;rw[HQ.o]at hr;rcases Q5w A2.o.cells hr with h8|⟨-,he,-⟩
  ·rw[A0.o]at h8;omega
  ·rw[A0.o,e5]at he
   have hk:=Q57 (ka:=aK (xM (mC (pM p)) (q0,q1))) (la:=aL (xM (mC (pM p)) (q0,q1))) (kb:=aK (yM (mC (pM p)) (q0,q1))) (lb:=aL (yM (mC (pM p)) (q0,q1))) (by rw[he];omega);rw[he]at hk;rw[<-AN.2];omega)
 have D7:D (G=7->V6 (Y4 bk (aV (Q7 (mC (pM p)) B)))+aL (Q7 (mC (pM p)) B)<=8):=qh (λe7=>by
  have U:=AM.o;unfold Zn at U;rw[A0.o,e7,AN.1]at U;simp only[Int.reduceBEq,Bool.false_eq_true,if_false,if_true]at U;split at U
  ·simp at U
  ·split at U
   ·simp at U
   ·omega)
 clear AN;have BV:D (Zm G=2-Q23 (G==7)):=qh (by unfold Zm Q23;split<;>simp_all);obtain⟨tr,AB⟩:∃t,Q23 (G==7)=t:=⟨_,rfl⟩;rw[AB]at BV;have HT:=qh AB;have F1:0<=tr/\tr<=1:=by rw[<-AB];unfold Q23;split<;>simp
 obtain⟨GM,GN⟩:=F1;obtain⟨b7,D8⟩:∃b,(G==7)=b:=⟨_,rfl⟩;rw[D8]at HT;clear AB;by_cases BF:(l.length:Int)+Zm G<AL
 ·have F2:(l.length:Int)+2-tr<AL:=by have:=BV.o;omega
  have BG:=qh BF;clear BF;go_wp2_with(first|((go_at_call 208;(with_reducible refine(Qbp _ g 0 (Q4d p (wX (Q5 p k))) (B8.o.kept (Am A9.o)) D5.o).mono ?_);rintro e W6 ⟨rfl,E⟩;rw[AQ,D4.o];have AC:=qh (Q0 A9.o E);clear E))|((go_at_call 109;(with_reducible refine(Q2g _ _).mono ?_);rintro e W7 ⟨rfl,rfl⟩;rw[HT.o]))|fail)
  refine Ca (v:=.tuple #[I Z 0,A N 0 0,I Z 4]) (by simp[results,results177,go_sem];first|rfl|done) rfl ?_;exact⟨λe=>absurd (by rw[HC.o.1]) e,λ_ _=>⟨rfl,AC.o⟩,λ_ e=>absurd (by rw[HC.o.1,HC.o.2];exact BG.o) e⟩
 have F2:¬((l.length:Int)+2-tr<AL):=by have:=BV.o;omega
 have BG:=qh BF;have BH:=qh (D6.o (by omega));clear BF D6;go_upto_region 9 with(first|((go_at_call 208;(with_reducible refine(Qbp _ g 0 (Q4d p (wX (Q5 p k))) (B8.o.kept (Am A9.o)) D5.o).mono ?_);rintro e W6 ⟨rfl,E⟩;rw[AQ,D4.o];have AC:=qh (Q0 A9.o E);have BE:=(Am E).cell _ _ BE;have BU:=(Am E).cell _ _ BU;have F3:g<W6.heap.size:=Ap EZ E.size;clear E))|((go_at_call 109;(with_reducible refine(Q2g _ _).mono ?_);rintro e W7 ⟨rfl,rfl⟩;rw[HT.o]))|fail)
 rename Bh=>W6
 have k0:W6.cell? ⟨bx,ox+n * 2,N⟩=R (I Z q0):=(Am AC.o).cell _ _ CV.o.1;have k1:W6.cell? ⟨bx,ox+n * 2+1,N⟩=R (I Z q1):=(Am AC.o).cell _ _ CV.o.2;have D9:=λq=>((Ay (X:=λ_=>False) AC.o).frozen EN (λh=>h) q).trans (EM q);have BI:bx≠g:=λe=>by have:=(Ar.1 HM.o.nodup).1;exact this (Aa _ (Af _ (by rw[B6.o,e];exact Ig _)))
 have DA:=λq=>HM.o.blk.free q;have DB:D (∀W7,W7=((W6.setCell ⟨bx,ox+n * 2,N⟩ (I Z 0)).setCell ⟨bx,ox+n * 2+1,N⟩ (I Z 0)).drew->W7.cell? ⟨g,4,N⟩=R (A (R ⟨bx,ox,N⟩) (n+1) cx)/\(∀q,W7.frozen? ⟨g,q,N⟩=false)/\g<W7.heap.size/\Q1 (λc=>c=bx) w W7/\Q9 bx (ox+n * 2) (cx * 2) w W7):=qh (λW7 e=>by
  have hF:Q1 (λc=>c=bx) W6 W7:=by rw[e];exact(Q16 (Q16 (Q1.refl _ _))).drew
  have DC:Q1 (λc=>c=bx) w W7:=(Ay AC.o).trans hF;refine⟨Qf hF BE (λe=>BI e.symm),λq=>(DC.frozen BQ (λe=>BI e.symm) q).trans (DA q),Ap F3 hF.size,DC, ?_⟩;rw[e];have U:2<=cx * 2:=by omega
  exact((((Q9.refl bx (ox+n * 2) (cx * 2) w).fr (Ay (X:=λ_=>False) AC.o) (λh=>h)).set (ox+n * 2) (by omega) _).set (ox+n * 2+1) (by omega) _).drew)
 have F4:n+1<=cx:=by have:=HN.o;omega
 have GO:IntKind.i64.wrap ((n:Int)+1)=(n:Int)+1:=by have:=HN.o;simp only[IntKind.wrap_i64];omega
 go_upto_region 10 with((go_at_call 209;(with_reducible refine(Qkw _ bx ox n cx _ _ F4 EK k0 k1 D9).mono ?_);rintro e W7 ⟨rfl,DD⟩;have AD:=qh (DB.o _ DD);have d4:=AD.o.1;have df:=AD.o.2.1;have F5:=AD.o.2.2.1;clear DD))
 refine Qq ?_;intro K AU;have BW:D (Q1 (λc=>c=g\/c=bx) w K):=qh (by rw[AU];exact Jl (AD.o.2.2.2.1.mono λc hc=> .inr hc) (.inl rfl) _);have BX:D (Q9 g 4 1 w K):=qh (by rw[AU];exact(Q9.of_frame AD.o.2.2.2.1 (λe=>BI e.symm) _ _).set 4 (by omega) _);have DE:D (Q9 bx (ox+n * 2) (cx * 2) w K):=qh (by rw[AU];exact AD.o.2.2.2.2.fr (Ze _ _ _ _) (λe=>BI e));have F6:D (K.cell? ⟨g,4,N⟩=R (A (R ⟨bx,ox,N⟩) n cx)):=qh (by rw[AU];exact Bw _ _ _ d4);have A3:D (Qk w S g 0 K (Q4d p ((wX (Q5 p k)).take n)) S l):=qh (by
  have DF:((wX (Q5 p k)).take n).length=n:=by rw[Cj];have:=HN.o;omega
  have ho:=EL.o.initSet (m:=n) rfl (by have:=HN.o;omega) (by have:=HN.o;omega) DE.o;have hm:=HM.o.turnX (w2:=K) (xs:=(wX (Q5 p k)).take n) (px:=R ⟨bx,ox,N⟩) (cx:=cx) (Fx:=S.Fx) (BW.o.mono λc hc=>hc.imp id λe=>by rw[B6.o,e];exact Ig _) BX.o (by rw[DF];exact F6.o) (by rw[DF];exact ho) (by rw[B6.o];simp) (λb E=> .inl E);exact⟨hm,A2.o.free,Q3f.refl _ _,BW.o.mono λc hc=>hc.imp id λe=>Aa _ (Af _ (by rw[B6.o,e];exact Ig _)),BQ,BX.o.wide (by omega) (by omega)⟩)
 clear AU d4 df F5 BE BU k0 k1 D9 DA AD DB BW BX DE;have GP:g<K.heap.size:=A3.o.mem.blk.lt;have GQ:=A3.o.mem.ne;obtain⟨_,_,m0,-,-,-,-,-,-,-,-⟩:=A3.o.mem.head;replace m0:K.cell? ⟨g,0,N⟩=R (A (R ⟨S.cb,S.o,N⟩) (mC (pM p)).length S.cap):=m0;have DG:=A3.o.mem.cells.bound;unfold maxLen at DG;obtain⟨DH,GR⟩:=DG;replace DH:(mC (pM p)).length<=S.cap:=DH;have F7:=AO.o.1.1;have F8:=AO.o.1.2;obtain⟨us,F9,DI,AV⟩:=A3.o.mem.cell (i:=B) (by show B.toNat<(mC (pM p)).length;omega);obtain⟨ut,FA,AB,AW⟩:=A3.o.mem.cell (i:=C) (by show C.toNat<(mC (pM p)).length;omega);replace AV:Ow Q3 K us (Q7 (mC (pM p)) B) (S.Fs.getD B.toNat []):=AV;replace AW:Ow Q3 K ut (Q7 (mC (pM p)) C) (S.Fs.getD C.toNat []):=AW;have BY:=qh (A3.o.mem.o (i:=B) (by show B.toNat<(mC (pM p)).length;omega));have BZ:=qh (A3.o.mem.o (i:=C) (by show C.toNat<(mC (pM p)).length;omega));have C0:D (Q7 (mC (Q4d p ((wX (Q5 p k)).take n))) B=Q7 (mC (pM p)) B):=qh (rfl);have DJ:D (Q7 (mC (Q4d p ((wX (Q5 p k)).take n))) C=Q7 (mC (pM p)) C):=qh (rfl);generalize Q7 (mC (pM p)) B=x at *
 generalize Q7 (mC (pM p)) C=y at *
 generalize S.Fs.getD B.toNat []=GA at *
 generalize S.Fs.getD C.toNat []=GB at *
 obtain⟨a,P,H,d,L⟩:=x;obtain⟨j,ly,vy,s,J⟩:=y;obtain⟨pd,cd,pw,cw,Gd,Gw,rfl,-⟩:=AV.agent;obtain⟨pe,ce,pv,cv,Ge,Gv,rfl,-⟩:=AW.agent;have C1:=qh AV;have C2:=qh AW;obtain⟨u0,u1,u2,u3,u4⟩:=Q4b DI;obtain⟨t0,t1,t2,t3,t4⟩:=Q4b AB
 have C3:D (∀W,Below K.heap.size K W->W.cell? ⟨g,0,N⟩=_/\W.cell? ⟨S.cb,S.o+B.toNat * 5,N⟩=_/\W.cell? ⟨S.cb,S.o+B.toNat * 5+1,N⟩=_/\W.cell? ⟨S.cb,S.o+B.toNat * 5+2,N⟩=_/\W.cell? ⟨S.cb,S.o+B.toNat * 5+3,N⟩=_/\W.cell? ⟨S.cb,S.o+B.toNat * 5+4,N⟩=_/\W.cell? ⟨S.cb,S.o+C.toNat * 5,N⟩=_/\W.cell? ⟨S.cb,S.o+C.toNat * 5+1,N⟩=_/\W.cell? ⟨S.cb,S.o+C.toNat * 5+2,N⟩=_/\W.cell? ⟨S.cb,S.o+C.toNat * 5+3,N⟩=_/\W.cell? ⟨S.cb,S.o+C.toNat * 5+4,N⟩=_):=qh (λW E=>have hk:=Am E
  ⟨hk.cell _ _ m0,hk.cell _ _ u0,hk.cell _ _ u1,hk.cell _ _ u2,hk.cell _ _ u3,hk.cell _ _ u4,hk.cell _ _ t0,hk.cell _ _ t1,hk.cell _ _ t2,hk.cell _ _ t3,hk.cell _ _ t4⟩)
 obtain⟨FB,FC⟩:=F7;obtain⟨C4,FD⟩:=F8;have GS:=A3.o.mem.cells.blk.lt;clear F9 FA DI AB AV AW m0 u0 u1 u2 u3 u4 t0 t1 t2 t3 t4;obtain⟨m0,u0,u1,u2,u3,u4,t0,t1,t2,t3,t4⟩:=C3.o K (Ai _ _);go_cut [16,17] (λx y wx=>∃(ba bb:Nat),x=.pointer (R ⟨ba,0,N⟩)/\y=.pointer (R ⟨bb,0,N⟩)/\ba≠bb/\(K.heap.size<=ba/\K.heap.size<=bb)/\wx.heap[ba]?=R (.cells #[I Z a,I Z P,I Z H,A pd d.length cd,A pw L.length cw] 134 (0,0))/\wx.heap[bb]?=R (.cells #[I Z j,I Z ly,I Z vy,A pe s.length ce,A pv J.length cv] 134 (0,0))/\Below K.heap.size K wx)
 case first=>
  go_region_held3(λW=>W.cell? ⟨g,0,N⟩=R (A (R ⟨S.cb,S.o,N⟩) (mC (pM p)).length S.cap)/\W.cell? ⟨S.cb,S.o+B.toNat * 5,N⟩=R (I Z a)/\W.cell? ⟨S.cb,S.o+B.toNat * 5+1,N⟩=R (I Z P)/\W.cell? ⟨S.cb,S.o+B.toNat * 5+2,N⟩=R (I Z H)/\W.cell? ⟨S.cb,S.o+B.toNat * 5+3,N⟩=R (A pd d.length cd)/\W.cell? ⟨S.cb,S.o+B.toNat * 5+4,N⟩=R (A pw L.length cw)/\W.cell? ⟨S.cb,S.o+C.toNat * 5,N⟩=R (I Z j)/\W.cell? ⟨S.cb,S.o+C.toNat * 5+1,N⟩=R (I Z ly)/\W.cell? ⟨S.cb,S.o+C.toNat * 5+2,N⟩=R (I Z vy)/\W.cell? ⟨S.cb,S.o+C.toNat * 5+3,N⟩=R (A pe s.length ce)/\W.cell? ⟨S.cb,S.o+C.toNat * 5+4,N⟩=R (A pv J.length cv))
   (((refine C3.o _ ?_);go_grown)) (first|fail)
  all_goals(go_wp2_with fail;go_meet)
  ·exact⟨_,_,rfl,rfl,by omega,⟨by omega,by omega⟩,(Jn K _ _ _ _).1,(Jn K _ _ _ _).2,by go_grown⟩
  ·exact⟨_,_,rfl,rfl,by omega,⟨by omega,by omega⟩,(Jn K _ _ _ _).2,(Jn K _ _ _ _).1,by go_grown⟩
 case rest=>
 obtain⟨ba,bb,rfl,rfl,GT,⟨GU,GV⟩,C5,C6,BJ⟩:=hcut;have C7:=qh C5;have C8:=qh C6;have DK:=qh (A3.o.below BJ);have C9:=qh (C1.o.kept λb E=>BJ.block b (C1.o.lt b E));have CA:=qh (C2.o.kept λb E=>BJ.block b (C2.o.lt b E));have FE:ba<wc.heap.size:=Zb C5;have FF:bb<wc.heap.size:=Zb C6;have CB:D (∀V,Q1 (λc=>c=g\/c=S.cb) wc V->V.heap[ba]?=wc.heap[ba]?/\V.heap[bb]?=wc.heap[bb]?/\Ow Q3 V [I Z a,I Z P,I Z H,A pd d.length cd,A pw L.length cw] (a,P,H,d,L) GA/\Ow Q3 V [I Z j,I Z ly,I Z vy,A pe s.length ce,A pv J.length cv] (j,ly,vy,s,J) GB):=qh (λV hf=>by
  refine⟨hf.block _ FE (λe=>e.elim (λe=>by omega) λe=>by omega),hf.block _ FF (λe=>e.elim (λe=>by omega) λe=>by omega),C9.o.frame hf λb E=>⟨C9.o.lt b E,λe=> ?_⟩,CA.o.frame hf λb E=>⟨CA.o.lt b E,λe=> ?_⟩⟩
  ·exact(BY.o b E).2 (e.elim (λe=>e▸Ae) λe=>Aa _ (e▸Ae))
  ·exact(BZ.o b E).2 (e.elim (λe=>e▸Ae) λe=>Aa _ (e▸Ae)))
 clear C5 C6 BJ m0 u0 u1 u2 u3 u4 t0 t1 t2 t3 t4 C3;have FG:D (B<(mC (Q4d p ((wX (Q5 p k)).take n))).length):=qh (FC);have BK:D (C<(mC (Qg (Q4d p ((wX (Q5 p k)).take n)) B)).length/\C.toNat∉B.toNat::l):=qh (⟨by rw[Zk];exact FD,by simp only[List.mem_cons,not_or];exact⟨λe=>AO.o.2.1 (by omega),AO.o.2.2.2⟩⟩);go_upto_region 12 with((go_at_call 176;(with_reducible refine(Qbl DK.o B FB FG.o AO.o.2.2.1).mono ?_);rintro e DL ⟨rfl,M,hf⟩;have A8:=qh M;have CC:=qh hf;clear M hf))
 have CD:=qh (CB.o _ CC.o);have DM:D ((mC (Q4d p ((wX (Q5 p k)).take n))).length=(mC (pM p)).length):=qh (rfl);have DN:D ((mX (Q4d p ((wX (Q5 p k)).take n))).length<=1500):=qh (by show((wX (Q5 p k)).take n).length<=1500;rw[Cj];have:=HN.o;omega);obtain⟨⟨r0,r1,r2,r3,r4⟩,-⟩:=Y0 (CD.o.1.trans C7.o);obtain⟨⟨s0,s1,s2,s3,s4⟩,-⟩:=Y0 (CD.o.2.1.trans C8.o);have FH:D (w.cell? ⟨g,5,N⟩=R (A p0 bk.length c0)):=qh (EW.o);generalize Q4d p ((wX (Q5 p k)).take n)=mm at *
 have GW:K.heap.size<=wc.heap.size:=by omega
 subst D8;by_cases h7:G=7
 ·subst h7
  have FI:(0<=H/\H<bk.length)/\Ys (Y4 bk H)=true/\(0<=P/\P<=8)/\(Y4 bk H).length+(Zv (Y4 bk H)).length<=l.length+2:=BH.o.2.2 rfl;obtain⟨⟨FJ,FK⟩,AX,⟨DO,DP⟩,FL⟩:=FI;have GX:=Ql3 AX;have DQ:Vn (Y4 bk H) P=true:=by rw[Q7s AX DO DP];exact decide_eq_true (D7.o rfl)
  have FM:=qh (show Q3z (Y4 bk H) P (Qg mm B) C=Vo bk (Qg mm B) (a,P,H,d,L) C from
   Qhh (x:=(a,P,H,d,L)) AX A8.o.free (by simp only[Bs];omega) C4 BK.o.2 bk rfl)
  have FN:DL.cell? ⟨g,5,N⟩=R (A p0 bk.length c0):=Q10 FH.o HM.o.blk A8.o.keep (by omega);have FO:D (∀b∈g::(S.put B []).all,A7.heap.size<=b):=qh (λb E=>HS.o b ((Aq.1 E).elim (λe=>e▸Ae) λh=>Aa _ ((Zf h).elim (λh=>by simp at h) id)));have FP:D (Below A7.heap.size A7 DL):=qh (CR.o.trans (A8.o.fr.below CR.o.size (λc hc=>HS.o c (hc.elim (λe=>e▸Ae) λh=>Aa _ h))));have CE:D (C<(mC (Qg mm B)).length/\(mC (Qg mm B)).length<=1000000/\(mX (Qg mm B)).length<=100000):=qh (⟨BK.o.1,by rw[Zk,DM.o];omega,by show(mX mm).length<=100000;have:=DN.o;omega⟩);have FQ:D ((Y4 bk H).length-1+(Zv (Y4 bk H)).length<=(B.toNat::l).length):=qh (by simp only[Bs];omega);have DR:=qh (And.intro AX DQ);clear AX DQ FL;go_wp2_with((go_at_call 210;(with_reducible refine(Qk8 A7 _ FP.o g _ _ _ A8.o.mem A8.o.free FO.o p0 c0 bk EI.o FN CS.o a P H d L pd pw cd cw C (Y4 bk H) ⟨FJ,FK⟩ rfl DR.o.1 ⟨DO,DP⟩ DR.o.2 FQ.o ⟨C4,CE.o.1⟩ CE.o.2.1 CE.o.2.2).mono ?_);rintro e Y ⟨rfl,S',l',M⟩;have u:=qh M;clear M))
  refine Ca (v:=.tuple #[I Z 7,A N 0 0,I Z 0]) (by simp[results,results177,go_sem];first|rfl|done) rfl ?_;refine⟨λe=>absurd (by rw[HC.o.1]) e,λ_ e=>absurd (show(l.length:Int)+Zm 7<AL by rw[HC.o.1,HC.o.2]at e;exact e) (Int.not_lt.2 BG.o),λ_ _=>⟨A N 0 0,S',l',by rw[HC.o.2], ?_, ?_⟩⟩
  ·rw[AT.o,Qch,C0.o,<-FM.o]
   with_reducible exact A8.o.thruI u.o
  ·rw[AT.o,Qch];with_reducible exact Yy.empty
 have GY:(G==7)=false:=by simpa using h7
 have HP:=qh (BH.o.2.1 h7);have FR:=qh BH.o.1;have AP:=qh (Qdc bk mm G B C h7);rw[C0.o,DJ.o]at AP;go_upto_region 15 with fail
 go_upto_region 16 with((go_at_call 176;(with_reducible refine(Qbl A8.o C C4 BK.o.1 BK.o.2).mono ?_);rintro e Y ⟨rfl,M,hf⟩;have u:=qh M;have DS:=qh hf;clear M hf))
 have AY:=qh (CB.o _ (CC.o.trans DS.o));clear r0 r1 r2 r3 r4 s0 s1 s2 s3 s4;obtain⟨⟨r0,r1,r2,r3,r4⟩,-⟩:=Y0 (AY.o.1.trans C7.o);obtain⟨⟨s0,s1,s2,s3,s4⟩,-⟩:=Y0 (AY.o.2.1.trans C8.o);have AZ:D ((mC (Qg (Qg mm B) C)).length<=1000000/\(mX (Qg (Qg mm B) C)).length<=1000000):=qh (⟨by rw[Zk,Zk,DM.o];omega,by show(mX mm).length<=1000000;have:=DN.o;omega⟩);have AE:D ((∀c∈GA,c∉g::((S.put B []).put C []).all)/\∀c∈GB,c∉g::((S.put B []).put C []).all):=qh (by
  refine⟨λc hc hm=>(BY.o c hc).2 ?_,λc hc hm=> ?_⟩
  ·rcases Aq.1 hm with e|hm
   ·exact e▸Ae
   ·exact Aa _ ((Zf hm).elim (λh=>by simp at h) id)
  ·refine(BZ.o c hc).2 ?_
   rcases Aq.1 hm with e|hm
   ·exact e▸Ae
   ·refine Aa _ ?_
    have:c∈((S.put C []).put B []).all:=by have FT:B.toNat≠C.toNat:=λe=>AO.o.2.1 (by omega);unfold MS.all MS.put at hm⊢;simp only at hm⊢;rw[List.set_comm _ _ (Ne.symm FT)];exact hm
    exact(Zf this).elim (λh=>by simp at h) id)
 have FU:D (w.heap.size<=Y.heap.size):=qh (u.o.fr.size);have B0:D (∀(w':Bh) (v:Bk) (S':MS) (l':List Nat) (CF:Qqp) (lk:List Qqt),Jf bk mm G B C=(CF,lk)->Qk Y ((S.put B []).put C []) g 0 w' CF S' l'->Yy Qu Y S' w' v lk->Qk9 bk p k l.length w S g (.returned (.tuple #[I Z G,v,I Z 0])) w'):=qh (λw' v S' l' CF lk he M z=>by
  refine⟨λe=>absurd (by rw[HC.o.1]) e,λ_ e=>absurd (show(l.length:Int)+Zm G<AL by rw[HC.o.1,HC.o.2]at e;exact e) (Int.not_lt.2 BG.o),λ_ _=>⟨v,S',l',by rw[HC.o.2], ?_, ?_⟩⟩
  ·rw[AT.o,he];exact u.o.thruI M
  ·rw[AT.o,he]
   obtain⟨F,o,nd,r⟩:=z;exact⟨F,o,nd,λb E=>⟨Au FU.o (r b E).1,(r b E).2⟩⟩)
 have BL:=qh AY.o.2.2.1;have B1:=qh AY.o.2.2.2;clear AY CD C7 C8 CB A8 CC DS DK A3 BY BZ AT BH C0 DJ D7 A0 AM BC D3 C1 C2 C9 CA;generalize Qg (Qg mm B) C=m2 at *
 generalize (S.put B []).put C []=S2 at *
 by_cases q3:G=3
 ·subst q3
  obtain⟨A4,A5⟩:=HP.o.2.1 rfl;replace A4:L.length=2:=A4;replace A5:3 * J.length<=l.length:=A5;have AF:=BL.o;rw[A4]at AF r4;obtain⟨O,x1,rfl⟩:∃O x1,L=[O,x1]:=by
   match L,A4 with
   | [O,x1],_=>exact⟨O,x1,rfl⟩
  have FV:=qh (Qpe Y g m2 S2 C.toNat B.toNat l u.o.mem u.o.free a P H d O x1 pd pw cd cw GA AF AE.o.1 j ly vy s J pe pv ce cv GB B1.o AE.o.2 A5 (by have:J.length<=3:=BD.o.2.2;omega) (by have:s.length<=4:=BD.o.2.1;omega) AZ.o.1);have AG:D (Jf bk mm 3 B C=((Qns m2 (a,P,H,d,[O,x1]) (j,ly,vy,s,J)).1,(Qns m2 (a,P,H,d,[O,x1]) (j,ly,vy,s,J)).2)):=qh (by rw[Qol u.o.free _ _ (by simp only[Bs];show 2+3 * J.length<=_;omega),AP.o];rfl);clear A4 A5 AF;go_wp2_with((go_at_call 211;(with_reducible refine FV.o.mono ?_);rintro e AH ⟨v',S',l',rfl,M,z⟩;have AI:=qh M;have AJ:=qh z;clear M z))
  refine Ca (v:=.tuple #[I Z 3,v',I Z 0]) (by simp[results,results177,go_sem];first|rfl|done) rfl ?_;exact B0.o AH v' S' l' _ _ AG.o AI.o AJ.o
 by_cases q6:G=6
 ·subst q6
  obtain⟨A5,DT,DU,DV,DW⟩:=HP.o.2.2.2.2 rfl;replace A5:L.length<=l.length+1:=A5;have FW:=qh (Qk1 Y g m2 S2 C.toNat (B.toNat::l) u.o.mem u.o.free a P H d L pd pw cd cw GA BL.o AE.o.1 j ly vy s J pe pv ce cv GB B1.o AE.o.2 (by simp only[Bs];omega) (by have:L.length<=3:=BD.o.1.2;omega) DT DU DV DW AZ.o.2 AZ.o.1);have AG:D (Jf bk mm 6 B C=((Q3j m2 (a,P,H,d,L) (j,ly,vy,s,J)).1,(Q3j m2 (a,P,H,d,L) (j,ly,vy,s,J)).2)):=qh (by rw[Qiq u.o.free _ _ (by simp only[Bs];show L.length+1<=_;omega),AP.o];rfl);clear A5 DT DU DV DW;go_wp2_with((go_at_call 214;(with_reducible refine FW.o.mono ?_);rintro e AH ⟨v',S',l',rfl,M,z⟩;have AI:=qh M;have AJ:=qh z;clear M z))
  refine Ca (v:=.tuple #[I Z 6,v',I Z 0]) (by simp[results,results177,go_sem];first|rfl|done) rfl ?_;exact B0.o AH v' S' l' _ _ AG.o AI.o AJ.o
 by_cases q5:G=5
 ·subst q5
  obtain⟨DX,DY⟩:=HP.o.2.2.2.1 rfl;have DZ:j=7/\2<=J.length\/j=8/\0<s.length/\0<J.length:=by
   rcases F0.o rfl with e|e
   ·exact .inl ⟨e,DY (by rw[e];decide)⟩
   ·exact .inr ⟨e,DX e⟩
  have FX:=qh (Qmp Y g m2 S2 C.toNat (B.toNat::l) u.o.mem u.o.free a P H d L pd pw cd cw GA BL.o AE.o.1 j ly vy s J pe pv ce cv GB B1.o AE.o.2 DZ AZ.o.1);have AG:D (Jf bk mm 5 B C=((Q4r m2 (a,P,H,d,L) (j,ly,vy,s,J)).1,(Q4r m2 (a,P,H,d,L) (j,ly,vy,s,J)).2)):=qh (by rw[AP.o];rfl);clear DX DY DZ;go_wp2_with((go_at_call 213;(with_reducible refine FX.o.mono ?_);rintro e AH ⟨v',S',l',rfl,M,z⟩;have AI:=qh M;have AJ:=qh z;clear M z))
  refine Ca (v:=.tuple #[I Z 5,v',I Z 0]) (by simp[results,results177,go_sem];first|rfl|done) rfl ?_;exact B0.o AH v' S' l' _ _ AG.o AI.o AJ.o
 by_cases q4:G=4
 ·subst q4
  have A5:J.length<=l.length+2:=HP.o.2.2.1 rfl;have FY:=qh (Qme Y g m2 S2 (C.toNat::B.toNat::l) u.o.mem u.o.free j ly vy s J pe pv ce cv GB B1.o AE.o.2 (by simp only[Bs];omega) (by have:J.length<=3:=BD.o.2.2;omega) AZ.o.1);have AG:D (Jf bk mm 4 B C=((J.foldl Yn (m2,[])).1,(J.foldl Yn (m2,[])).2)):=qh (by rw[AP.o];rfl);clear A5;go_wp2_with((go_at_call 212;(with_reducible refine FY.o.mono ?_);rintro e AH ⟨v',S',l',rfl,M,z⟩;have AI:=qh M;have AJ:=qh z;clear M z))
  refine Ca (v:=.tuple #[I Z 4,v',I Z 0]) (by simp[results,results177,go_sem];first|rfl|done) rfl ?_;exact B0.o AH v' S' l' _ _ AG.o AI.o AJ.o
 have CG:G=1\/G=2:=by have:=FR.o;omega
 obtain⟨A4,B2⟩:=HP.o.1 CG;replace A4:L.length=2:=A4;replace B2:J.length=2:=B2;have AF:=BL.o;have CH:=B1.o;rw[A4]at AF r4;rw[B2]at CH s4;obtain⟨O,x1,rfl⟩:∃O x1,L=[O,x1]:=by
  match L,A4 with
  | [O,x1],_=>exact⟨O,x1,rfl⟩
 obtain⟨y0,y1,rfl⟩:∃y0 y1,J=[y0,y1]:=by
  match J,B2 with
  | [y0,y1],_=>exact⟨y0,y1,rfl⟩
 have FZ:D (Jf bk mm G B C=(m2,[(O,y0),(x1,y1)])):=qh (by
  rw[AP.o];have:(G==1||G==2)=true:=by rcases CG with rfl|rfl<;>rfl
  rw[if_pos this];rfl)
 have CI:Rd (.slice Q4) Y [A pw 2 cw] [O,x1]:=by obtain⟨G0,G1,CJ,CK,G2,G3,ex,-,-,h,-⟩:=AF.agent;have e5:A pw 2 cw=A CJ (aW (a,P,H,d,[O,x1])).length CK:=Option.some.inj (congrArg (λl:List Bk=>l[4]?) ex);rw[e5];exact h.rd
 have CL:Rd (.slice Q4) Y [A pv 2 cv] [y0,y1]:=by obtain⟨G0,G1,CJ,CK,G2,G3,ex,-,-,h,-⟩:=CH.agent;have e5:A pv 2 cv=A CJ (aW (j,ly,vy,s,[y0,y1])).length CK:=Option.some.inj (congrArg (λl:List Bk=>l[4]?) ex);rw[e5];exact h.rd
 obtain⟨bq,oq,rfl,CM⟩:=Rd.elem CI 0 (by simp);obtain⟨GZ,H0,B3,CN⟩:=Rd.elem CI 1 (by simp);simp only[Bu,Ck,and_true]at B3;obtain⟨rfl,rfl⟩:=B3;obtain⟨bz,oz,rfl,CO⟩:=Rd.elem CL 0 (by simp);obtain⟨H1,H2,B3,CP⟩:=Rd.elem CL 1 (by simp);simp only[Bu,Ck,and_true]at B3;obtain⟨rfl,rfl⟩:=B3;simp only[List.getElem_cons_zero,List.getElem_cons_succ]at CM CN CO CP;obtain⟨E0,E1⟩:=O;obtain⟨E2,E3⟩:=x1;obtain⟨E4,E5⟩:=y0;obtain⟨E6,E7⟩:=y1;obtain⟨a0,a1,E8,E9⟩:=CM.word;obtain⟨a2,a3,EA,EB⟩:=CN.word;obtain⟨b0,b1,EC,ED⟩:=CO.word;obtain⟨b2,b3,EE,EF⟩:=CP.word;simp only[Ty.sz,Nat.reduceAdd,Nat.zero_mul,Nat.one_mul,Nat.add_zero]at a0 a1 a2 a3 b0 b1 b2 b3;have G4:D ((Qqm E0/\Qqm E1/\Qqm E4/\Qqm E5)/\Qqm E2/\Qqm E3/\Qqm E6/\Qqm E7):=qh (⟨⟨E8,E9,EC,ED⟩,EA,EB,EE,EF⟩);have G5:=Ac Y _ a0;have G6:=Ac Y _ b0;simp only at G5 G6;clear CM CN CO CP CI CL AF CH A4 B2 E8 E9 EA EB EC ED EE EF;have G7:=qh u.o.mem.lt;rcases CG with rfl|rfl
 all_goals
  go_upto_region 20 with fail
  go_still_tail 18,(by kernel_rfl)
  go_wp2_with fail
  refine Ca (v:=.tuple #[I Z _,A (R ⟨Y.heap.size,0,N⟩) 2 2,I Z 0]) (by simp[results,results177,go_sem];first|rfl|done) rfl ?_;have G8:Below Y.heap.size Y ((Y.alloc (.cells #[I Z E0,I Z E1,I Z E4,I Z E5,I Z E2,I Z E3,I Z E6,I Z E7] 232)).drew):=((Ai _ _).alloc (Aj _) _).drew;refine B0.o _ _ S2 _ m2 _ FZ.o ((Qk.start u.o.mem u.o.free).below G8) ⟨[Y.heap.size],Qgn (Bg Y _) G4.o,by simp,λb E=> ?_⟩;rw[Bb.1 E];exact⟨Aj _,λhm=>by have:=G7.o _ (Aa _ hm);omega⟩
theorem Qnu{a w:Bh}{b o:Nat}{v:Bk}(h:Q1 (λc=>c=b) a w):Q1 (λc=>c=b) a (w.setCell ⟨b,o,N⟩ v):=h.setCell rfl v
theorem Qex{f:Wd->Prop}{l:Qqt}(B:f l.1)(C:f l.2):f (Q5f l).1/\f (Q5f l).2:=by
 unfold Q5f;split
 ·exact⟨C,B⟩
 ·exact⟨B,C⟩
theorem Rd.tail{e:Ty}{w:Bh}{b o n c:Nat}{xs:List e.den}(h:Rd (.slice e) w [A (R ⟨b,o,N⟩) n c] xs)(K:0<n)(L:1<c):Rd (.slice e) w [A (R ⟨b,o+e.sz,N⟩) (n-1) (c-1)] (xs.drop 1:List e.den):=by
 refine⟨_,rfl,.inr ?_⟩;obtain⟨v,C,h⟩:=h;obtain rfl:=List.cons.inj C|>.1;rcases h with⟨h,_⟩|⟨M,o',O,B,P,S,E⟩
 ·simp at h
 ·simp only[Value.slice.injEq,Bu,Ck,and_true]at B
  obtain⟨⟨rfl,rfl⟩,rfl,rfl⟩:=B;refine⟨b,o+e.sz,c-1,by rw[Df],by rw[Df];omega,by omega,λi F=> ?_⟩;rw[Df]at F;obtain⟨cs,G,H,J⟩:=E (i+1) (by omega);refine⟨cs,G, ?_, ?_⟩
  ·rw[show o+e.sz+i * e.sz=o+(i+1) * e.sz by rw[Nat.succ_mul];omega];exact H
  ·rw[List.getElem_drop];simpa[Nat.add_comm]using J
theorem Rd.none1{e:Ty}{w:Bh}{a:Addr}(B:a.spot=N):Rd (.slice e) w [A (R a) 0 0] ([]:List e.den):=by
 obtain⟨b,o,s⟩:=a;simp only at B;subst B;exact⟨_,rfl,.inr ⟨b,o,0,rfl,Aj _,Ak _,λi C=>by simp at C⟩⟩
theorem Qp{w:Bh}{b i j:Nat}{v:Bk}(h:i≠j):(w.setCell ⟨b,i,N⟩ v).cell? ⟨b,j,N⟩=w.cell? ⟨b,j,N⟩:=World.cell?_setCell_other _ _ _ _ (by intro e;simp only[Ck,and_true,true_and]at e;omega)
theorem Qgc{w:Bh}{b o:Nat}{F G H J:Bk}(K:w.cell? ⟨b,o,N⟩=R F)(L:w.cell? ⟨b,o+1,N⟩=R G)(M:w.cell? ⟨b,o+2,N⟩=R H)(O:w.cell? ⟨b,o+3,N⟩=R J)(B v1 C E:Bk):
  Qqw ((((w.setCell ⟨b,o,N⟩ B).setCell ⟨b,o+1,N⟩ v1).setCell ⟨b,o+2,N⟩ C).setCell ⟨b,o+3,N⟩ E) b o [B,v1,C,E]:=
 Q81 ((Qp (by omega)).trans ((Qp (by omega)).trans ((Qp (by omega)).trans (Bw _ _ _ K))))
  ((Qp (by omega)).trans ((Qp (by omega)).trans (Bw _ _ _ ((Qp (by omega)).trans L))))
  ((Qp (by omega)).trans (Bw _ _ _ ((Qp (by omega)).trans ((Qp (by omega)).trans M))))
  (Bw _ _ _ ((Qp (by omega)).trans ((Qp (by omega)).trans ((Qp (by omega)).trans O))))
theorem Qn5{w:Bh}{g h:Nat}{T:TypeId}{H J b0 G:Bk}(K:w.heap[g]?=R (.cells #[H,J] T (0,0)))(L:w.heap[h]?=R (.cells #[b0,G] T (0,0)))(E:g≠h)(B C F v1:Bk):
  ((((w.setCell ⟨g,0,N⟩ B).setCell ⟨g,1,N⟩ C).setCell ⟨h,0,N⟩ F).setCell ⟨h,1,N⟩ v1).heap[g]?=R (.cells #[B,C] T (0,0))/\((((w.setCell ⟨g,0,N⟩ B).setCell ⟨g,1,N⟩ C).setCell ⟨h,0,N⟩ F).setCell ⟨h,1,N⟩ v1).heap[h]?=R (.cells #[F,v1] T (0,0)):=by
 have M:=Vm K B C;have O:((w.setCell ⟨g,0,N⟩ B).setCell ⟨g,1,N⟩ C).heap[h]?=R (.cells #[b0,G] T (0,0)):=by rw[Eg _ _ _ _ (λe=>E e.symm),Eg _ _ _ _ (λe=>E e.symm)];exact L
 refine⟨?_,Vm O F v1⟩;rw[Eg _ _ _ _ (λe=>E e),Eg _ _ _ _ (λe=>E e)];exact M
end Go.Proofs.YthbpkpnioaniiaaGreat
