import Derived.Test.YthbpkpnioaniiaaGreatP32
set_option maxHeartbeats 40000000
set_option maxRecDepth 100000
set_option linter.all false
namespace Go.Proofs.YthbpkpnioaniiaaGreat
open Go.RowKit Go.Proofs.Tryz
open Go.Value renaming int->I,slice->A
open Go.IntKind renaming i64->Z
open Option renaming none->N,some->R
open Go renaming World->Bh,heap_alloc_new->Bg
open Go.World renaming cell?_setCell_same->Bw,cell?_setCell_far->Fz
open Nat renaming mul_one->Cb,zero_add->Cd,le_of_lt->Ep
theorem Q1.over{X Y:Nat->Prop}{a b c:Bh}(h:Q1 X a b)(k:Q1 Y b c)(E:∀i,Y i->X i\/a.heap.size<=i):Q1 X a c:=
 ⟨k.os.trans h.os,k.tape.trans h.tape,k.output.trans h.output,Au h.size k.size,λi B C=>(k.block i (Ap B h.size) (λF=>(E i F).elim C (λe=>by omega))).trans (h.block i B C)⟩
def Qob(bk:List Qr2)(p:J9)(k:Nat)(w:Bh)(P:PS)(pb po:Nat)(e:Ending)(w':Bh):Prop:=
 e=.returned (I Z (Q0k bk (pM p) (Q5 p k)))/\Q1 (λc=>c=pb\/c∈P.all) w w'/\(Q0k bk (pM p) (Q5 p k)=0->∃P',Qy w P pb po w' (Q3k bk p k) P')
theorem Qmu(A1 w:Bh)(C6:Below A1.heap.size A1 w)(p0:Option Addr)(c0:Nat)(bk:List Qr2)(C7:Rd (.slice Je) A1 [A p0 bk.length c0] bk)(AG:bk.length<=maxLen)(AT:∀n∈bk,Ys n=true)(pb J:Nat)(p:J9)(P:PS)(k:Nat)(h:Zj w pb J p P)(hS:∀b∈pb::P.all,A1.heap.size<=b)(hk:k<(pW p).length)(hx:0<(wX (Q5 p k)).length)(C8:wL (Q5 p k)=[])(l:List Nat)(BF:Q9u bk p k l):
  Calls prog 119 #[.pointer (R ⟨pb,J,N⟩),A p0 bk.length c0,.pointer (R ⟨P.wb,P.wo+k * 5,N⟩)] w (Qob bk p k w P pb J):=by
 obtain⟨n,hn⟩:∃n,(wX (Q5 p k)).length=n+1:=⟨(wX (Q5 p k)).length-1,by omega⟩;obtain⟨px,cx,pl,cl,pc,cc,Gx,W,g,⟨DF,DG,C9,DH,DI⟩,CA,CB,CC,⟨i0,i1⟩,hG,hN,hA⟩:=h.focus hk;obtain⟨qx,dx,m0,m1,m2,m3,m4,j0,j1,j2,-⟩:=h.mem.head;have HP:=qh h;have A2:=qh BF;have DJ:=qh CA;have BG:=qh CB;have BH:=qh CC;have HG:=qh hG;have HN:=qh hN;have K:=qh hA;have HS:=qh hS;have BI:=qh C6;have DK:=qh C7;have DL:=qh AG;have DM:=qh AT;have DN:=qh hn;have A3:=qh h.lt;have CD:=qh (And.intro i0 i1);have BJ:=h.mem.blk.lt;have BK:=h.wks.blk.lt;have AU:=(h.ap.1 P.wb Ae).1;have BL:=Qqn hN;have CE:∀b∈Gx,b∈P.all/\b≠pb/\b≠P.wb/\b∉P.S.all:=λb B=>hA b (Ag _ B);have CF:=qh CE;have CG:((wX (Q5 p k)).length:Int)-1=(n:Int):=by omega
 have BM:=qh CG;have F1:IntKind.i64.wrap (((wX (Q5 p k)).length:Int)-1)=((wX (Q5 p k)).length:Int)-1:=Q1o (n:=(wX (Q5 p k)).length) (by have:=BF.xlen;omega);clear h BF CA CB CC hG hN hA hS C6 C7 AG AT hn i0 i1 CE CG;go_enter func119,ntmps119;go_upto_region 3 with fail
 refine Qq ?_;intro u AV;have CH:D (u.heap[w.heap.size]?=R (.cells #[A (R ⟨P.S.cb,P.S.o,N⟩) (mC (pM p)).length P.S.cap,I Z (mF (pM p)),I Z (mR (pM p)).1,I Z (mR (pM p)).2,A px (wX (Q5 p k)).length cx,A p0 bk.length c0] 227 (0,0))):=qh (by rw[AV];exact Bg w _);have A4:D (Below w.heap.size w u):=qh (by rw[AV];go_grown);have z:D (Q1 (λ_=>False) w u):=qh (Ay A4.o);have F2:w.heap.size<u.heap.size:=by rw[AV];simp
 have DO:=qh (HP.o.lend (k:=k) (Aj _) z.o CH.o DJ.o BL.1 CF.o);clear AV;have DP:u.cell? ⟨w.heap.size,5,N⟩=R (A p0 bk.length c0):=Q8 CH.o rfl;have d2:=(Am A4.o).cell _ _ C9;have DQ:D (Below A1.heap.size A1 u):=qh (BI.o.trans (A4.o.mono BI.o.size));have BN:D (∀b∈w.heap.size::(⟨P.S.cb,P.S.o,P.S.cap,P.S.Fs,Gx⟩:MS).all,A1.heap.size<=b/\(b=w.heap.size\/(b∈P.all/\b≠pb/\b≠P.wb/\b∉W++g))):=qh (λb B=>by
  have DR:=HP.o.ap;rcases Aq.1 B with e|B
  ·exact⟨e▸BI.o.size,.inl e⟩
  ·have G:(b∈P.S.all\/b∈Gx):=by
    rcases Aq.1 B with e|B
    ·exact .inl (e▸Ae)
    ·exact(At0.1 B).imp (λh=>Aa _ (Ag _ h)) id
   have AN:k<P.Fw.length:=by have:=HP.o.wks.len;omega
   rcases G with G|G
   ·have d:=DR.2 b (Aa _ G)
    refine⟨HS.o b (Aa _ (Ag _ G)),.inr ⟨Ag _ G,λe=>(Ar.1 HP.o.nd).1 (e▸Ag _ G),λe=>d (e▸Ae),λC=>d (Aa _ (Zu AN ?_))⟩⟩;rw[HG.o];exact Af _ C
   ·obtain⟨a1,a2,a3,-⟩:=CF.o b G
    exact⟨HS.o b (Aa _ a1),.inr ⟨a1,a2,a3,BL.2.2 b G⟩⟩)
 have DS:D (∀b∈w.heap.size::(⟨P.S.cb,P.S.o,P.S.cap,P.S.Fs,Gx⟩:MS).all,A1.heap.size<=b):=qh (λb B=>(BN.o b B).1);obtain⟨⟨BO,AW⟩,BP⟩:∃c,Jv bk p k=c:=⟨_,rfl⟩;obtain⟨M,BQ⟩:∃c,Q0s p k=c:=⟨_,rfl⟩;have AH:=qh (Qjh (bk:=bk) (p:=p) (k:=k) (n:=l.length) A2.o.freeLen);rw[BP,BQ]at AH;have A9:=qh BP;have AI:=qh BQ;have BR:=qh (Qm9 A1 u DQ.o p0 c0 bk DK.o DL.o DM.o w.heap.size p k n _ DO.o DS.o DP DN.o l A2.o);have AX:D (∀Y,Q1 (λc=>c=w.heap.size\/c∈(⟨P.S.cb,P.S.o,P.S.cap,P.S.Fs,Gx⟩:MS).all) u Y->Q1 (λc=>c=pb\/c∈P.all) w Y):=qh (λY hf=>(Ay A4.o).over hf λi O=>by
  rcases O with e|O
  ·exact .inr (by omega)
  ·rcases(BN.o i (Aa _ O)).2 with e|e
   ·exact .inr (by omega)
   ·exact .inl (.inr e.1))
 clear BP BQ;by_cases AO:AW=0;rotate_left
 ·have F3:(AW !=0)=true:=by simpa using AO
  have HH:D (Q0k bk (pM p) (Q5 p k)=AW):=qh (by rw[AH.o];simp[AO]);have DT:D ((Jv bk p k).2≠0):=qh (by rw[A9.o];exact AO);have DU:D ((Jv bk p k).2=AW):=qh (by rw[A9.o]);go_wp2_with((go_at_call 177;rw[BM.o];(with_reducible refine BR.o.mono ?_);rintro e Y ⟨G,d,h3⟩;obtain⟨rfl,B⟩:=G DT.o;rw[DU.o];have BS:=qh B;clear G d h3 B))
  go_ret;exact⟨by rw[HH.o]<;>rfl,AX.o _ (Ay BS.o),λe=>absurd (HH.o.symm.trans e) AO⟩
 subst AO;have BT:D ((Jv bk p k).2=0):=qh (by rw[A9.o]);by_cases AY:(l.length:Int)+Zm M<BO
 ·have HH:D (Q0k bk (pM p) (Q5 p k)=4):=qh (by rw[AH.o];simp[AY])
  have AZ:D ((l.length:Int)+Zm (Q0s p k)<(Jv bk p k).1):=qh (by rw[A9.o,AI.o];exact AY);go_wp2_with((go_at_call 177;rw[BM.o];(with_reducible refine BR.o.mono ?_);rintro e Y ⟨G,d,h3⟩;obtain⟨rfl,B⟩:=d BT.o AZ.o;have BS:=qh B;clear G d h3 B))
  go_ret;exact⟨by rw[HH.o]<;>rfl,AX.o _ (Ay BS.o),λe=>absurd (HH.o.symm.trans e) (by decide)⟩
 have AZ:D (¬((l.length:Int)+Zm (Q0s p k)<(Jv bk p k).1)):=qh (by rw[A9.o,AI.o];exact AY);obtain⟨F4,F5⟩:1<=M/\M<=7:=by
  have h0:(Zn bk (mC (pM p)) (Ya (Q5 p k))).2=0:=BT.o;have G:(Zn bk (mC (pM p)) (Ya (Q5 p k))).1=BO:=by have:=A9.o;unfold Jv at this;rw[this]
  have d:Z4 (mC (pM p)) (Ya (Q5 p k))=M:=AI.o;have:=(Qg0 bk A2.o.cells A2.o.rok h0 (n:=l.length) (by rw[G,d];omega)).1;rw[d]at this;exact this
 obtain⟨T,CI⟩:∃T,(Q1q bk p k).1=T:=⟨_,rfl⟩;obtain⟨E,AN⟩:∃E,(Q1q bk p k).2=E:=⟨_,rfl⟩;have CJ:=qh A2.o.counts;have BU:(M-1).toNat<(wC (Q5 p k)).length:=by rw[CJ.o.1];omega
 obtain⟨f,B0⟩:∃f,(wC (Q5 p k)).getD (M-1).toNat 0=f:=⟨_,rfl⟩;have DV:D (0<=f/\f<=1000000000):=qh (by rw[<-B0,Ab,Ad BU];exact CJ.o.2 _ (As _));rw[B0]at AH;have CK:(M-1).toNat=M.toNat-1:=by omega
 have F7:M-1<((wC (Q5 p k)).length:Int):=by omega
 have F8:(0:Int)<=M-1:=by omega
 have CL:=qh B0;clear B0 AY;go_upto_region 6 with((go_at_call 177;rw[BM.o];(with_reducible refine BR.o.mono ?_);rintro e Y ⟨G,d,h3⟩;obtain⟨v,S',l',rfl,hs,hn⟩:=h3 BT.o AZ.o;rw[AI.o];rw[CI]at hs;rw[AN]at hn;obtain⟨pv,CM,rfl⟩:=hn.form;have A5:=qh hs;have DW:=qh hn;clear G d h3 hs hn))
 have A6:D (∀b,(b=P.wb\/b=pb\/b∈W++g)->¬(b=w.heap.size\/b∈(⟨P.S.cb,P.S.o,P.S.cap,P.S.Fs,Gx⟩:MS).all)):=qh (λb B e=>by
  have F9:b<w.heap.size:=by
   rcases B with e|e|e
   ·omega
   ·omega
   ·exact A3.o b (Aa _ (K.o b (Af _ e)).1)
  rcases e with e|e
  ·omega
  ·rcases(BN.o b (Aa _ e)).2 with e|⟨-,e1,e2,e3⟩
   ·omega
   ·rcases B with e|e|e
    ·exact e2 e
    ·exact e1 e
    ·exact e3 e)
 have m:=A5.o.fr;have B1:=A6.o P.wb (.inl rfl);have AP:=A6.o pb (.inr (.inl rfl));have CN:P.wb<u.heap.size:=Ap BK A4.o.size;have CO:pb<u.heap.size:=Ap BJ A4.o.size;have kk:∀q,Y.cell? ⟨P.wb,q,N⟩=w.cell? ⟨P.wb,q,N⟩:=λq=>(m.cell CN B1 q).trans ((z.o.cell BK (λh=>h) q));have e0:=(kk _).trans DF;have e1:=(kk _).trans DG;have e2:=(kk _).trans C9;have e3:=(kk _).trans DH;have e4:=(kk _).trans DI;have DX:=λq=>((m.frozen CN B1 q).trans (z.o.frozen BK (λh=>h) q)).trans (HP.o.wks.blk.free q);have FA:=λq=>((m.frozen CO AP q).trans (z.o.frozen BJ (λh=>h) q)).trans (HP.o.mem.blk.free q);have DY:=qh ((BH.o.frame z.o (λb B=>⟨BH.o.lt b B,λh=>h⟩)).frame m (λb B=>⟨Ap (BH.o.lt b B) A4.o.size,A6.o b (.inr (.inr (Af _ B)))⟩));have CP:=qh ((BG.o.frame z.o (λb B=>⟨BG.o.lt b B,λh=>h⟩)).frame m (λb B=>⟨Ap (BG.o.lt b B) A4.o.size,A6.o b (.inr (.inr (Ag _ B)))⟩));have B2:=Qqn BL.2.1;obtain⟨bc,oc,us,Gz,AT,AG,FB,-,-,-,DZ,BV,E0,CQ,CR⟩:=DY.o.focus B2.2.1 (M-1).toNat BU;have E1:=Jt (t:=.int) rfl CQ;subst E1;obtain⟨rfl,E2,-⟩:=CQ;have CS:(wC (Q5 p k))[(M-1).toNat]=f:=by rw[<-CL.o,Ab,Ad BU];rfl
 rw[CS]at BV E2;subst AT;have kc:=Qac BV;simp only[Ty.sz,Cb]at kc;have E3:=qh CR;have E4:=qh kc;rw[CK]at kc;clear CR BV DZ CS kk;have E5:=DV.o;obtain⟨FC,FD⟩:=E5;by_cases B3:f=1000000000
 ·have HH:D (Q0k bk (pM p) (Q5 p k)=4):=qh (by rw[AH.o];simp[B3])
  rw[B3]at kc;go_wp2_with fail
  go_ret;exact⟨by rw[HH.o]<;>rfl,AX.o _ A5.o.fr,λe=>absurd (HH.o.symm.trans e) (by decide)⟩
 have E6:(f==1000000000)=false:=by simpa using B3
 have HH:D (Q0k bk (pM p) (Q5 p k)=0):=qh (by
  rw[AH.o];have G:¬(1000000000<=f):=by omega
  have d:¬((l.length:Int)+Zm M<BO):=by intro h;have:=AZ.o;rw[A9.o,AI.o]at this;simp only at this;omega
  simp[G];omega)
 obtain⟨BW,BX,x4,BY⟩:=A5.o.mem.redexes;simp only[Cd]at x4;have FE:w.heap.size≠bc:=λe=>by have:=A3.o bc (Aa _ (K.o bc (Af _ (Af _ AG))).1);omega
 have E7:=Ac Y _ x4;simp only at E7;have FF:u.heap.size<=Y.heap.size:=m.size;have FG:P.wb<Y.heap.size:=by omega
 have AA:bc≠P.wb:=λe=>(K.o bc (Af _ (Af _ AG))).2.2.1 e;clear B3;go_upto_region 10 with fail
 refine Qq ?_;intro H A0;have E8:(M-1).toNat=M.toNat-1:=CK;have AQ:D (Q1 (λc=>c=P.wb\/c∈g) Y H):=qh (by rw[A0];exact Jl (Jl (Q1.refl _ _) (.inr AG) _) (.inl rfl) _);have E9:D (Q9 P.wb (P.wo+k * 5) 5 Y H):=qh (by rw[A0];exact((Q9.of_frame (Ze _ _ _ _) (λe=>AA e.symm) _ _).set (P.wo+k * 5+2) (by omega) _));have BZ:D (Ow (.slice .int) H [A (R ⟨bc,oc,N⟩) (wC (Q5 p k)).length cc] ((wC (Q5 p k)).set (M-1).toNat (f+1)) g):=qh (by
  have h3:=E3.o (Y.setCell ⟨bc,oc+(M-1).toNat,N⟩ (I Z (f+1))) [I Z (f+1)] (f+1) ((Ze _ _ _ _).mono λc hc=> .inl hc) (by simp only[Ty.sz,Cb];exact(Q9.refl _ _ _ _).set _ (by omega) _)
   (by
    intro j hj;obtain rfl:j=0:=by simpa using hj
    simp only[Ty.sz,Cb];exact Bw _ _ _ E4.o) ⟨rfl,by unfold Qqm;omega,rfl⟩
  rw[A0,<-E8];exact h3.frame (Ze _ _ _ _) (λb B=>⟨h3.lt b B,λe=>(K.o b (Af _ (Af _ B))).2.2.1 e⟩))
 have C0:∀b∈W,b∉g:=λb B C=>B2.2.2 b B C;have EA:D (Ow (.slice Qu) H [A pl 0 cl] [] W):=qh (by have:=CP.o.frame AQ.o (λb B=>⟨CP.o.lt b B,λe=>e.elim (λe=>(K.o b (Af _ (Ag _ B))).2.2.1 e) (C0 b B)⟩);rw[C8]at this;exact this);have e0:H.cell? ⟨P.wb,P.wo+k * 5,N⟩=R (I Z (wP (Q5 p k))):=by rw[A0,Qp (by omega),Fz _ _ _ _ (by exact AA)];exact e0
 have e1:H.cell? ⟨P.wb,P.wo+k * 5+1,N⟩=R (I Z (wV (Q5 p k))):=by rw[A0,Qp (by omega),Fz _ _ _ _ (by exact AA)];exact e1
 have e2:H.cell? ⟨P.wb,P.wo+k * 5+2,N⟩=R (A BW (mX T).length BX):=by rw[A0];exact Bw _ _ _ ((Fz _ _ _ _ (by exact AA)).trans e2)
 have e3:H.cell? ⟨P.wb,P.wo+k * 5+3,N⟩=R (A pl 0 cl):=by rw[A0,Qp (by omega),Fz _ _ _ _ (by exact AA)];rw[C8]at e3;exact e3
 have e4:H.cell? ⟨P.wb,P.wo+k * 5+4,N⟩=R (A (R ⟨bc,oc,N⟩) (wC (Q5 p k)).length cc):=by rw[A0,Qp (by omega),Fz _ _ _ _ (by exact AA)];exact e4
 have AR:D (Qr4 H P.wb):=qh (by rw[A0];exact((((HP.o.wks.blk.frame z.o (λh=>h)).frame m B1).keep (Q9.of_frame (Ze _ _ _ _) (λe=>AA e.symm) 0 0)).keep ((Q9.refl P.wb 0 (P.wo+k * 5+3) _).set (P.wo+k * 5+2) (by omega) _)));have EB:D (Yy Qu u S' H (A pv E.length CM) E):=qh (by
  obtain⟨F,o,nd,r⟩:=DW.o;exact⟨F,o.frame AQ.o (λb B=>⟨o.lt b B,λe=>by
   have G:=(r b B).1;rcases e with e|e
   ·omega
   ·have:=A3.o b (Aa _ (K.o b (Af _ (Af _ e))).1);omega⟩),nd,r⟩)
 have FH:Y.heap.size=H.heap.size:=by rw[A0];simp[World.setCell]
 have FI:P.wb<H.heap.size:=by omega
 have FJ:Q1 (λc=>c=P.wb\/c∈g) Y H:=AQ.o;clear A0 kc x4 E0 DX E6;have B4:D (E.length<=1000000):=qh (by
  have G:=Qjz bk (Q4d p ((wX (Q5 p k)).take ((wX (Q5 p k)).length-1))) (Z4 (mC (pM p)) (Ya (Q5 p k))) (Zl (mC (pM p)) (Ya (Q5 p k))).1 (Zl (mC (pM p)) (Ya (Q5 p k))).2;have d:E.length<=2+(aW (Q7 (mC (pM p)) (Zl (mC (pM p)) (Ya (Q5 p k))).2)).length:=by rw[<-AN];exact G
  have CT:=Qcl (cs:=mC (pM p)) (q0:=(Ya (Q5 p k)).1) (q1:=(Ya (Q5 p k)).2) (Q05 A2.o.rok).1 l A2.o.nin;have h3:(aD (Q7 (mC (pM p)) (Zl (mC (pM p)) (Ya (Q5 p k))).2)).length<=4/\(aW (Q7 (mC (pM p)) (Zl (mC (pM p)) (Ya (Q5 p k))).2)).length<=3:=A2.o.small _ CT.1.2.1 CT.1.2.2;omega)
 have EC:D (∀V,Q1 (λc=>c=P.wb\/c∈W) H V->Rd (.slice Qu) V [A pv E.length CM] E):=qh (λV hf=>by
  obtain⟨F,o,nd,r⟩:=EB.o;exact(o.frame hf λb B=>⟨o.lt b B,λe=>by
   have G:=(r b B).1;rcases e with e|e
   ·omega
   ·have:=A3.o b (Aa _ (K.o b (Af _ (Ag _ e))).1);omega⟩).rd)
 obtain⟨il,ED,EE,EF,EG⟩:=info_parts Q0q;have FK:(H.heap.size:Int)=H.heap.size:=rfl;go_upto_region 11 with fail
 go_loopw [72] (λi wr=>∃(j:Nat) (AJ:Option Addr) (AK:Nat) (Fl:List Nat),j<=E.length/\i=I Z j/\D (wr.cell? ⟨P.wb,P.wo+k * 5+3,N⟩=R (A AJ (E.take j).length AK))/\D (Ow (.slice Qu) wr [A AJ (E.take j).length AK] (E.take j) Fl)/\D (Fl.Nodup)/\D (∀b∈Fl,b∈W\/H.heap.size<=b)/\D (Q1 (λc=>c=P.wb\/c∈W) H wr)/\D (Q9 P.wb (P.wo+k * 5+3) 1 H wr)) (λi _=>E.length-(intOf i).toNat);case atStart=>exact⟨0,pl,cl,W,Ak _,rfl,e3,EA.o,(show W.Nodup from B2.1),(show∀b∈W,b∈W\/H.heap.size<=b from λ_ h=> .inl h),Q1.refl _ _,Q9.refl _ _ _ _⟩
 case round=>
  obtain⟨j,AJ,AK,Fl,hj,rfl,B5,AB,CU,B6,AC,AD⟩:=hrel;have FL:=AC.o.size;have CV:P.wb<wr.heap.size:=by omega
  by_cases C1:j<E.length
  ·have C2:D (j+1<=E.length):=qh (C1)
   obtain⟨bl,ol,rfl,hE⟩:=Rd.elem (EC.o _ AC.o) j C1;have C3:D (E.take (j+1)=E.take j++ [E[j]]):=qh (An C1);generalize E[j]=x at *
   obtain⟨⟨a1,s1⟩,⟨a2,s2⟩⟩:=x;obtain⟨⟨g0,g1,g2,g3⟩,CW,CX,CY,CZ⟩:=hE.link;simp only[Ty.sz,Nat.reduceAdd]at g0 g1 g2 g3;have EH:=Ac wr _ g0;simp only at EH;have B7:D (Qqm a1/\Qqm s1/\Qqm a2/\Qqm s2):=qh (⟨CW,CX,CY,CZ⟩);obtain⟨L,hL⟩:∃L,E.take j=L:=⟨_,rfl⟩;have FM:L.length<=1000000:=by rw[<-hL,List.length_take];have:=B4.o;omega
   rw[hL]at B5 AB C3;have FN:(j:Int)<E.length:=by omega
   have FO:(0:Int)<=j:=by omega
   clear hE CW CX CY CZ hL;go_upto_region 13 with fail
   refine Qq ?_;intro U B8;have AL:D (Below wr.heap.size wr U):=qh (by rw[B8];go_grown);have B9:U.heap[wr.heap.size]?=R (.cells #[I Z a1,I Z s1,I Z a2,I Z s2] 232 (0,0)):=by rw[B8];exact Bg wr _
   have k0:U.cell? ⟨wr.heap.size,0,N⟩=R (I Z a1):=Q8 B9 rfl;have k1:U.cell? ⟨wr.heap.size,1,N⟩=R (I Z s1):=Q8 B9 rfl;have k2:U.cell? ⟨wr.heap.size,2,N⟩=R (I Z a2):=Q8 B9 rfl;have k3:U.cell? ⟨wr.heap.size,3,N⟩=R (I Z s2):=Q8 B9 rfl;have D0:U.heap.size=wr.heap.size+1:=by rw[B8];simp
   have D1:=qh (AB.o.kept λb B=>AL.o.block b (AB.o.lt b B));have l3:=(Am AL.o).cell _ _ B5.o;have EI:P.wb<U.heap.size:=by omega
   have BA:P.wb∉Fl:=λe=>(B6.o _ e).elim (λe=>(K.o _ (Af _ (Ag _ e))).2.2.1 rfl) λe=>by omega
   have FP:wr.heap.size∉Fl:=λe=>by have:=AB.o.lt _ e;omega
   have EJ:=λq=>((Ay (X:=λ_=>False) AL.o).frozen CV (λh=>h) q).trans ((AR.o.keep AD.o).free q);have FQ:=qh D0;have FR:=B4.o;clear B8 g0 g1 g2 g3 D0;go_region_law((refine Y6 _ rfl (.tmp 80) (.tmp 86) 97 rfl (e:=Qu) 120 il _ 32 underlying97 ED EE EF EG rfl (by decide) (v:=A AJ L.length AK) (xs:=L) (y:=((a1,s1),(a2,s2))) (vs:=[I Z a1,I Z s1,I Z a2,I Z s2]) (F:=Fl) U.heap.size 1 rfl rfl (D1.o.kept λb B=>Az _ _ _ (D1.o.lt b B)) CU.o (Ow.link B7.o.1 B7.o.2.1 B7.o.2.2.1 B7.o.2.2.2) (Q81 (Q8 (Bg U.drew _) rfl) (Q8 (Bg U.drew _) rfl) (Q8 (Bg U.drew _) rfl) (Q8 (Bg U.drew _) rfl)) Qi2 (by omega) ?_;intro p6 c6 w6 F6 D2 D3 D4 D5;have D6:=qh D2;have EK:=qh D3;have D7:=qh D4;have BB:=qh (Q1.trans (show Q1 (λc=>c∈Fl) U _ from((Q1.refl _ U).alloc _).drew) D5);have FT:=λq=>(BB.o.frozen EI BA q).trans (EJ q);have r6:=Qf BB.o l3 BA;clear D2 D3 D4 D5))
   all_goals
    go_wp2_with fail
    go_roundw;case rel=>
     have FU:=B4.o;have FV:=C2.o;have EL:∀b∈F6,b<w6.heap.size/\b≠P.wb:=λb B=>⟨D6.o.lt b B,λe=>(D7.o b B).elim (λh=>BA (e▸h)) λh=>by have d:U.heap.size<=b:=(by rw[h];exact Ep (by show _<(U.alloc _).heap.size;simp));omega⟩;refine⟨j+1,p6,c6,F6,C2.o,by go_num,(show World.cell? _ _=_ from ?_),(show Ow _ _ _ _ _ from ?_),EK.o,(show∀b∈F6,b∈W\/H.heap.size<=b from λb B=> ?_),(show Q1 _ _ _ from ?_),(show Q9 _ _ _ _ _ from ?_)⟩
     ·rw[C3.o,List.length_append];exact Bw _ _ _ r6
     ·rw[C3.o,List.length_append];exact D6.o.frame (Ze _ _ _ _) EL
     ·rcases D7.o b B with h|h
      ·exact B6.o b h
      ·have d:U.heap.size<=b:=by rw[h];exact Ep (by show _<(U.alloc _).heap.size;simp)
       have:=AL.o.size;exact .inr (by omega)
     ·exact Jl ((AC.o.trans (Ay AL.o)).over BB.o (λi O=>(B6.o i O).imp .inr id)) (.inl rfl) _
     ·exact((AD.o.fr (Ay (X:=λ_=>False) AL.o) (λh=>h)).fr BB.o BA).set _ (by omega) _
    case measure=>have:=C2.o;have:=B4.o;simp[intOf];omega
  ·have EM:E.length<=j:=by omega
   have EN:D (E.take j=E):=qh (Ao EM);rw[EN.o]at B5 AB;have FW:wr.heap[w.heap.size]?=H.heap[w.heap.size]?:=AC.o.block _ (by omega) (λe=>e.elim (λe=>by omega) λe=>by have:=A3.o _ (Aa _ (K.o _ (Af _ (Ag _ e))).1);omega);have FX:H.heap[w.heap.size]?=Y.heap[w.heap.size]?:=AQ.o.block _ (by omega) (λe=>e.elim (λe=>by omega) λe=>by have:=A3.o _ (Aa _ (K.o _ (Af _ (Af _ e))).1);omega);have A7:D (Q1 (λc=>c=P.wb\/c∈W++g) Y wr):=qh ((AQ.o.mono λc hc=>hc.imp id (Af _)).trans (AC.o.mono λc hc=>hc.imp id (Ag _)));have D8:D (Z8 wr w.heap.size 0 T S'):=qh (A5.o.mem.frame A7.o λb B e=>by
    have EO:b=w.heap.size\/b∈S'.all:=(Aq.1 B);have D9:b=P.wb\/b=pb\/b∈W++g:=e.elim .inl λe=> .inr (.inr e);rcases EO with B|B
    ·exact A6.o b D9 (.inl B)
    ·rcases A5.o.fresh.2.2.2 b B with B|B
     ·exact A6.o b D9 (.inr B)
     ·have:b<w.heap.size:=by
       rcases e with e|e
       ·omega
       ·exact A3.o b (Aa _ (K.o b (Af _ e)).1)
      omega)
   obtain⟨qf,df,n0,n1,n2,n3,n4,v0,v1,v2,FY⟩:=D8.o.head;simp only[Cd]at n1 n2 n3 n4;have DA:D (Qr4 wr pb):=qh (((HP.o.mem.blk.frame z.o (λh=>h)).frame m AP).frame A7.o (λe=>by
    rcases e with e|e
    ·exact AU e.symm
    ·exact(K.o pb (Af _ e)).2.1 rfl))
   have FZ:pb<wr.heap.size:=by omega
   have DB:¬(pb=P.wb\/pb∈W++g):=λe=>by
    rcases e with e|e
    ·exact AU e.symm
    ·exact(K.o pb (Af _ e)).2.1 rfl
   have kp:∀q,wr.cell? ⟨pb,q,N⟩=w.cell? ⟨pb,q,N⟩:=λq=>(A7.o.cell (by omega) DB q).trans ((m.cell CO AP q).trans (z.o.cell BJ (λh=>h) q));have EP:=(kp _).trans m0;have p1:=(kp _).trans m1;have p2:=(kp _).trans m2;have p3:=(kp _).trans m3;have p4:=(kp _).trans m4;have G0:=λq=>DA.o.free q;clear kp;have DC:pb∉S'.all:=λC=>by
    rcases A5.o.fresh.2.2.2 pb C with h|h
    ·exact AP (.inr h)
    ·omega
   have DD:∀b∈S'.all,(b∈P.S.all\/b∈Gx\/w.heap.size<=b)/\b≠P.wb/\b∉W++g:=λb C=>by
    rcases A5.o.fresh.2.2.2 b C with h|h
    ·refine⟨?_,λe=>A6.o b (.inl e) (.inr h),λe=>A6.o b (.inr (.inr e)) (.inr h)⟩
     rcases Aq.1 h with e|h
     ·exact .inl (e▸Ae)
     ·exact(At0.1 h).elim (λh=> .inl (Aa _ (Ag _ h))) λh=> .inr (.inl h)
    ·exact⟨.inr (.inr (by omega)),λe=>by omega,λe=>by have:=A3.o b (Aa _ (K.o b (Af _ e)).1);omega⟩
   have AE:=qh DD;have BC:=qh DC;have BD:D (∀b∈Fl,b∉g/\b≠pb/\b≠P.wb/\b∉S'.all/\(b∈W\/w.heap.size<=b)):=qh (λb B=>by
    have EQ:b∈S'.all->b<Y.heap.size:=λC=>A5.o.mem.lt b (Aa _ C);rcases B6.o b B with h|h
    ·have ha:=K.o b (Af _ (Ag _ h))
     exact⟨C0 b h,ha.2.1,ha.2.2.1,λC=>(AE.o b C).2.2 (Ag _ h),.inl h⟩
    ·refine⟨λe=> ?_,by omega,by omega,λC=>by have:=EQ C;omega,.inr (by omega)⟩
     have:=A3.o b (Aa _ (K.o b (Af _ (Af _ e))).1);omega)
   clear DD DC;go_wp2_with fail
   obtain⟨s,AS⟩:∃s,s=((((((wr.setCell ⟨pb,J,N⟩ (A (R ⟨S'.cb,S'.o,N⟩) (mC T).length S'.cap)).setCell ⟨pb,J+1,N⟩ (I Z (mF T))).setCell ⟨pb,J+2,N⟩ (I Z (mR T).1)).setCell ⟨pb,J+3,N⟩ (I Z (mR T).2)).setCell ⟨pb,J+4,N⟩ (A qf (mX T).length df)).setCell ⟨pb,J+4,N⟩ (A N 0 0)):=⟨_,rfl⟩;rw[<-AS];have A8:Q1 (λc=>c=pb) wr s:=by rw[AS];exact Jl (Vz _ _ _ _ _ _ _ _) rfl _
   have DE:Q9 pb J 5 wr s:=by rw[AS];exact((((((Q9.refl pb J 5 wr).set J (by omega) _).set (J+1) (by omega) _).set (J+2) (by omega) _).set (J+3) (by omega) _).set (J+4) (by omega) _).set (J+4) (by omega) _
   have ER:Qqw s pb J [A (R ⟨S'.cb,S'.o,N⟩) (mC T).length S'.cap,I Z (mF T),I Z (mR T).1,I Z (mR T).2,A N 0 0]:=by
    rw[AS];refine Q11 ?_ ?_ ?_ ?_ ?_
    ·exact(Qp (by omega)).trans ((Qp (by omega)).trans ((Qp (by omega)).trans ((Qp (by omega)).trans ((Qp (by omega)).trans (Bw _ _ _ EP)))))
    ·exact(Qp (by omega)).trans ((Qp (by omega)).trans ((Qp (by omega)).trans ((Qp (by omega)).trans (Bw _ _ _ ((Qp (by omega)).trans p1)))))
    ·exact(Qp (by omega)).trans ((Qp (by omega)).trans ((Qp (by omega)).trans (Bw _ _ _ ((Qp (by omega)).trans ((Qp (by omega)).trans p2)))))
    ·exact(Qp (by omega)).trans ((Qp (by omega)).trans (Bw _ _ _ ((Qp (by omega)).trans ((Qp (by omega)).trans ((Qp (by omega)).trans p3)))))
    ·exact Bw _ _ _ (Bw _ _ _ ((Qp (by omega)).trans ((Qp (by omega)).trans ((Qp (by omega)).trans ((Qp (by omega)).trans p4)))))
   clear AS;go_ret;refine⟨by rw[HH.o]<;>rfl,((AX.o _ m).over A7.o (λi O=> .inl (.inr (O.elim (λe=>e▸PS.wb_all) λe=>(K.o i (Af _ e)).1)))).over A8 (λi O=> .inl (.inl O)),λ_=> ?_⟩;have AM:∀b,b∈Gx\/b∈W++g->b∈P.Fw.getD k []:=λb B=>by rw[HG.o];exact B.elim (Ag _) (Af _)
   have ES:Q1 (λc=>c=pb\/c=P.wb\/c∈P.S.all\/c∈P.Fw.getD k []) w s:=by
    refine(((Ay A4.o).over m λi O=> ?_).over A7.o λi O=> .inl (O.elim (λe=> .inr (.inl e)) λe=> .inr (.inr (.inr (AM i (.inr e)))))).over A8 λi O=> .inl (.inl O);rcases O with e|O
    ·exact .inr (by omega)
    ·rcases Aq.1 O with e|O
     ·exact .inl (.inr (.inr (.inl (e▸Ae))))
     ·exact .inl ((At0.1 O).elim (λh=> .inr (.inr (.inl (Aa _ (Ag _ h))))) λh=> .inr (.inr (.inr (AM i (.inl h)))))
   have ET:Q9 P.wb (P.wo+k * 5) 5 w s:=(((((Q9.refl _ _ _ _).fr z.o (λh=>h)).fr m B1).trans E9.o).trans (AD.o.wide (by omega) (by omega))).fr A8 (λe=>AU e);have EU:Q9 pb J 5 w s:=((((Q9.refl _ _ _ _).fr z.o (λh=>h)).fr m AP).fr A7.o DB).trans DE;have EV:=Ar.1 A5.o.mem.nodup;have C4:=Ar.1 EV.2;have C5:=Ba.1 C4.2;have C:Z8 s pb J (mC T,mF T,mR T,[]) {S' with Fx:=[]}:=by
    refine⟨N,0,DA.o.keep DE,ER,v0,v1,v2,D8.o.cells.frame A8 (λb B e=> ?_),Ow.nil _, ?_⟩
    ·subst e
     exact BC.o ((Aq.1 B).elim (λe=>e▸Ae) λh=>Aa _ (Ag _ h))
    ·show(pb::S'.cb::(S'.Fs.flatten++ [])).Nodup
     rw[List.append_nil,Ar,Ar];refine⟨λB=>BC.o ((Aq.1 B).elim (λe=>e▸Ae) λh=>Aa _ (Ag _ h)),λh=>C4.1 (Ag _ h),C5.1⟩
   have BE:∀b∈({S' with Fx:=[]}:MS).all,b∈S'.all/\b∉S'.Fx:=λb B=>by
    rcases Aq.1 B with e|B
    ·exact⟨e▸Ae,λh=>C4.1 (e▸Af _ h)⟩
    ·have B:b∈S'.Fs.flatten:=by simpa using B
     exact⟨Aa _ (Ag _ B),λh=>C5.2.2 b B b h rfl⟩
   have AF:∀b∈S'.Fx,b∈S'.all:=λb B=>Aa _ (Af _ B);have EW:Ow (.slice Q4) s [A BW (mX T).length BX] (mX T) S'.Fx:=(BY.frame A7.o λb B=>⟨BY.lt b B,λe=>e.elim (AE.o b (AF b B)).2.1 (AE.o b (AF b B)).2.2⟩).frame A8 λb B=>⟨Ap (BY.lt b B) A7.o.size,λe=>BC.o (e▸AF b B)⟩;have EX:Ow (.slice Qu) s [A AJ E.length AK] E Fl:=AB.o.frame A8 λb B=>⟨AB.o.lt b B,(BD.o b B).2.1⟩;have EY:Ow (.slice .int) s [A (R ⟨bc,oc,N⟩) (wC (Q5 p k)).length cc] ((wC (Q5 p k)).set (M-1).toNat (f+1)) g:=(BZ.o.frame AC.o λb B=>⟨BZ.o.lt b B,λe=>e.elim (λe=>(K.o b (Af _ (Af _ B))).2.2.1 e) λe=>C0 b e B⟩).frame A8 λb B=>⟨Ap (BZ.o.lt b B) AC.o.size,λe=>(K.o b (Af _ (Af _ B))).2.1 e⟩;have EZ:Qqw s P.wb (P.wo+k * 5) [I Z (wP (Q5 p k)),I Z (wV (Q5 p k)),A BW (mX T).length BX,A AJ E.length AK,A (R ⟨bc,oc,N⟩) (wC (Q5 p k)).length cc]:=by have hh:=λq=>A8.cell CV (λe=>AU e) q;exact Q11 ((hh _).trans (Q10 e0 AR.o AD.o (by omega))) ((hh _).trans (Q10 e1 AR.o AD.o (by omega))) ((hh _).trans (Q10 e2 AR.o AD.o (by omega))) ((hh _).trans B5.o) ((hh _).trans (Q10 e4 AR.o AD.o (by omega)))
   have G1:(wC (Q5 p k)).length=((wC (Q5 p k)).set (M-1).toNat (f+1)).length:=by rw[List.length_set]
   have F0:=HP.o.redo hk C ES ET EU EZ (Ow.mkWorker CD.o.1 CD.o.2 EW EX EY) (by
    rw[Ba,Ba];refine⟨C5.2.1,⟨CU.o,B2.2.1,λa ha b B e=>(BD.o a ha).1 (e▸B)⟩,λa ha b B e=> ?_⟩;rcases At0.1 B with B|B
    ·exact(BD.o b B).2.2.2.1 (e▸AF a ha)
    ·exact(AE.o a (AF a ha)).2.2 (e▸Af _ B)) (λb B=>by
    rcases At0.1 B with B|B
    ·refine⟨(AE.o b (AF b B)).1.imp id (λh=>h.imp (λh=>AM b (.inl h)) id),λC=> ?_⟩
     rcases Aq.1 C with e|C
     ·exact BC.o (e▸AF b B)
     ·exact(BE b C).2 B
    ·rcases At0.1 B with B|B
     ·obtain⟨f1,f2,f3,f4,f5⟩:=BD.o b B
      exact⟨.inr (f5.imp (λh=>AM b (.inr (Ag _ h))) id),λC=>(Aq.1 C).elim f2 λC=>f4 (BE b C).1⟩
     ·refine⟨.inr (.inl (AM b (.inr (Af _ B)))),λC=> ?_⟩
      rcases Aq.1 C with e|C
      ·exact(K.o b (Af _ (Af _ B))).2.1 e
      ·exact(AE.o b (BE b C).1).2.2 (Af _ B)) (λb B=>(AE.o b (BE b B).1).1.imp id (λh=>h.imp (λh=>AM b (.inl h)) id))
   rw[Qlt A2.o.mx HH.o,CI,AN,AI.o,CL.o];exact F0
end Go.Proofs.YthbpkpnioaniiaaGreat
