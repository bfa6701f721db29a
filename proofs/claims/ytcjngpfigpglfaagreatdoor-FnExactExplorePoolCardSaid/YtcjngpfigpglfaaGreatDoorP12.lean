import Derived.Test.YtcjngpfigpglfaaGreatDoorP11
set_option maxHeartbeats 0
set_option maxRecDepth 100000
set_option linter.all false
namespace Go.Proofs.YtcjngpfigpglfaaGreatDoor
open Go.RowKit Go.Proofs.Tryz
open Go.Value renaming int->I,slice->A
open Go.IntKind renaming i64->Z
open Option renaming none->N,some->R
open OC(oC)
open OR(oR)
open JN(jN)
open Go renaming World->Bh,Calls->Bv,maxLen->Bu,heap_alloc_new->Bg
open Int renaming emod_nonneg->Fz,emod_lt_of_pos->Ez
open List renaming countP_le_length->Dn,mem_of_getElem?->Ho,length_take->Cf,length_nil->Em,nil_append->Bs,length_append->Bo,length_set->Bl,mem_flatMap->Cz,set_set->He,length_drop->Dp,length_cons->Br
open Nat renaming reduceAdd->Bj,zero_add->Cg
def Qyc(t:TypeId)(x h:Operand):Op:=Op.slice t x N (R h) N
theorem Qtp(t x h):Qyc t x h=Op.slice t x N (R h) N:=rfl
def Qne(C:Bh)(w)(U:Below C C w)(p0 F)(bk:List Qy0)(V:Rd (.slice Jl) C [A p0 bk F] bk){pb E}(m S)(h:Zh w pb E m S)(W:∀b∈pb::S.all,C<=b)(B)(a b:Int)(l)(H:Yq m l)(J:0<=a)(K:a<(mC m))(L:0<=b)(M:b<(mC m).length)(X:a≠b)(O:a.toNat∉l)(Y:b.toNat∉l)(c:B≠7->Qi9 B (Q7 (mC m) a) (Q7 (mC m) b) l)(d:B=7->Qbz bk (Q7 (mC m) a) l)(P:((aD (Q7 (mC m) a)).length<=1000/\(aW (Q7 (mC m) a)).length<=1000)/\((aD (Q7 (mC m) b)).length<=1000/\(aW (Q7 (mC m) b)).length<=1000))(f:(mC m).length<=1500)(hX:(mX m).length<=1000):
  Bv prog 227 #[A p0 bk F,(pb,E),B,a,b] w λe w'=>∃T S' l',e=.returned T/\Qn w S pb E w' (Yz bk m B a b).1 S' l'/\Yp w S' w' T (Yz bk m B a b).2:=by
 by_cases G:B=7
 ·subst G
  exact Qtf C w U p0 F bk V pb E m S h W a b l H J K L M O (d rfl) P f hX
 exact Qv6 w bk pb E m S h B a b l H J K L M X O Y G (c G) P (by omega)
theorem Qt0(A0 w)(AN:Below A0.heap.size A0 w)(p0 c0)(bk:List Qy0)(AO:Rd (.slice Jl) A0 [A p0 bk.length c0] bk)(CN:bk.length<=Bu)(BC:∀n∈bk,Qbs n)(AP:∀n∈bk,Yd n=true)(pb M p P k)(h:Y2 w pb M p P)(hS:∀b∈pb::P.all,A0.heap.size<=b)(L:k<(pW p).length)(hx:0<(wX (Q3 p k)).length)(l)(J:Qch bk p k l):
  Bv prog 191 #[A p0 bk.length c0,.pointer (R ⟨pb,M,N⟩),.pointer (R ⟨P.wb,P.wo+k * 5,N⟩)] w λe w'=>e=.returned (I Z (Q0f bk (pM p) (Q3 p k)))/\∃P',Z4 w P pb M w' (Q50 bk p k) P':=by
 have d:=J;have HP:=qh h;have DT:=qh d;obtain⟨px,cx,Gx,c2,A3,-,-,-⟩:=h.focR L;have F:=h.mem.at;have HA:=D (At Qq w pb M (pM p)) (F);have O:=Qkn d.rok;have DU:=qh O;have DV:=d.xlen;have AQ:(wX (Q3 p k)).length-1<(wX (Q3 p k)).length:=Nat.sub_lt hx Nat.one_pos;obtain⟨bx,ox,rfl,hE⟩:=Rd.elem A3.rd ((wX (Q3 p k)).length-1) AQ;have CO:=D ((wX (Q3 p k))[(wX (Q3 p k)).length-1]'AQ=Yg (Q3 p k)) (by unfold Yg;rw[Ab,Ad AQ];rfl);rw[CO.o]at hE;obtain⟨⟨q0,q1⟩,hq⟩:∃r,Yg (Q3 p k)=r:=⟨_,rfl⟩;rw[hq]at hE;obtain⟨e0,e1,i0,i1⟩:=hE.word;simp only[Ty.sz,Bj]at e0 e1;have DW:=Q2b (n:=(wX (Q3 p k)).length) (by omega);have DX:(0:Int)<=((wX (Q3 p k)).length:Int)-1:=by omega
 have DY:(((wX (Q3 p k)).length:Int)-1).toNat=(wX (Q3 p k)).length-1:=by omega
 have HQ:=qh hq;have DZ:=qh (And.intro i0 i1);have E0:((wX (Q3 p k)).length:Int)-1<(wX (Q3 p k)).length:=by omega
 rw[hq]at O;have AR:=qh O;have CP:=qh (d.small q0 O.1.1 O.1.2);have CQ:=qh (d.small q1 O.2.1 O.2.2);have BD:=D (Qu (mC (pM p)) (q0,q1)=7->0<=aV (xM (mC (pM p)) (q0,q1))/\0<=aL (xM (mC (pM p)) (q0,q1))/\aL (xM (mC (pM p)) (q0,q1))<=1000) (by have:=Q8g d;rw[hq]at this;exact λe=>by have:=this e;omega);have BE:=qh BC;have CR:=qh (AO.kept (Am AN));have CS:=qh AO;have BF:=qh AN;have CT:=D (∀b∈pb::P.S.all,A0.heap.size<=b) (λb B=>hS b ((Aq.1 B).elim (λe=>e▸Ae) λh=>Aa _ (Ag _ h)));clear h d A3 hE F i0 i1 O hq BC AO AN hS;have AS:=D (Jm (mC (pM p)) (mF (pM p)) l) (J.free);have BG:=D ((aW (Q7 (mC (pM p)) q0)).length<=100000000) (by have:=CP.o;omega);have BH:=D ((aW (Q7 (mC (pM p)) q1)).length<=100000000) (by have:=CQ.o;omega);have A8:=D (l.length<=1000000) (by have:=J.freeLen;have:=Dn (p:=λc=>aK c==0) (l:=mC (pM p));have:=J.len;unfold Qx at *;omega);have E1:(l.length:Int)<=1000000:=by have:=A8.o;omega
 have g:=D (Q0f bk (pM p) (Q3 p k)=(if(Zt bk (mC (pM p)) (q0,q1)).2 !=0 then(Zt bk (mC (pM p)) (q0,q1)).2 else if decide ((l.length:Int)+Zk (Qu (mC (pM p)) (q0,q1))<(Zt bk (mC (pM p)) (q0,q1)).1)||decide (1000000000<=(wC (Q3 p k)).getD (Qu (mC (pM p)) (q0,q1)-1).toNat 0)then 4 else 0)) (by unfold Q0f;rw[HQ.o,<-J.freeLen]);have AT:=D ((Zt bk (mC (pM p)) (q0,q1)).2=0->(Zt bk (mC (pM p)) (q0,q1)).1<=l.length+Zk (Qu (mC (pM p)) (q0,q1))->(1<=Qu (mC (pM p)) (q0,q1)/\Qu (mC (pM p)) (q0,q1)<=7)/\(Qu (mC (pM p)) (q0,q1)≠7->Qi9 (Qu (mC (pM p)) (q0,q1)) (xM (mC (pM p)) (q0,q1)) (yM (mC (pM p)) (q0,q1)) l.length)/\(Qu (mC (pM p)) (q0,q1)=7->Qbz bk (xM (mC (pM p)) (q0,q1)) l.length)) (λe1 e2=>by have hr:=J.rok;rw[HQ.o]at hr;obtain⟨U,h2⟩:=Qfl bk J.cells hr e1 e2;refine⟨U,h2,λh7=>Qlc h7 e1 ?_ AP (by rw[h7]at e2;exact e2)⟩;have:=Q8g J;rw[HQ.o]at this;exact this h7);have BI:=J.counts;have BJ:0<=Zk (Qu (mC (pM p)) (q0,q1))/\Zk (Qu (mC (pM p)) (q0,q1))<=2:=by unfold Zk;split<;>omega
 have E2:=qh AP;have BK:=qh BI;have j:=qh J;clear J AP BI;go_enter func191,ntmps191;go_upto_region 4 with fail
 refine Qp ?_;intro W1 AU;have AV:=D (Below w.heap.size w W1) (by rw[AU];go_grown);have AW:=D (W1.heap[w.heap.size]?=R (.cells #[I Z q0,I Z q1] 143 (0,0))) (by rw[AU];exact Bg w _);clear AU e0 e1;obtain⟨⟨x0,x1⟩,-⟩:=Zj AW.o;go_upto_region 5 with((go_at_call 222;(with_reducible refine(Qha _ _ _ (pM p) (HA.o.kept (Am AV.o)) q0 q1 AR.o BG.o BH.o).mono ?_);rintro e W2 ⟨rfl,B⟩;have A9:=qh (Q0 AV.o B);have AX:=qh (Qf AW.o B);clear B))
 clear x0 x1 AV AW;obtain⟨⟨x0,x1⟩,-⟩:=Zj AX.o;go_upto_region 6 with((go_at_call 223;(with_reducible refine(Qox p0 c0 bk (pM p) (CR.o.kept (Am A9.o)) CN (HA.o.kept (Am A9.o)) q0 q1 AR.o BG.o BH.o BD.o BE.o).mono ?_);rintro e W3 ⟨rfl,B⟩;have A1:=qh (Q0 A9.o B);have CU:=qh (Qf AX.o B);clear B))
 clear x0 x1 A9 AX W2 W1;obtain⟨E,A4⟩:∃E,Qu (mC (pM p)) (q0,q1)=E:=⟨_,rfl⟩;obtain⟨⟨CV,AY⟩,AA⟩:∃c,Zt bk (mC (pM p)) (q0,q1)=c:=⟨_,rfl⟩;rw[A4,AA]at g AT;rw[A4]at BJ;rw[A4,AA];simp only at g AT⊢;have CW:=qh A4;have E3:=qh AA;clear A4 AA BD;obtain⟨E4,E5⟩:=BJ;have AB:=qh ((Z4.start HP.o).below A1.o);have o:=D (pb<w.heap.size) (HP.o.mem.blk.lt);by_cases A5:AY=0
 ·subst A5
  by_cases BL:(l.length:Int)+Zk E<CV
  ·have H:Q0f bk (pM p) (Q3 p k)=4:=by rw[g.o];simp[BL]
   have K:=qh H;clear H;go_wp2_with(first|((go_at_call 224;(with_reducible refine(Q65 (pM p) l (HA.o.kept (Am A1.o)) AS.o A8.o).mono ?_);rintro e W4 ⟨rfl,rfl⟩))|((go_at_call 225;(with_reducible refine(Q82).mono ?_);rintro e W4 ⟨rfl,rfl⟩))|fail)
   go_ret;exact⟨by rw[K.o]<;>rfl,P,by unfold Q50;rw[if_neg (by rw[K.o];decide)];exact AB.o⟩
  ·obtain⟨⟨E6,E7⟩,BM,BN⟩:=AT.o rfl (by omega)
   have AZ:=qh (And.intro BM BN);have B0:(E-1).toNat<(wC (Q3 p k)).length:=by rw[BK.o.1];omega
   obtain⟨bc,oc,cc,k4,V,-,-⟩:=AB.o.setN o.o L B0;have B1:(E-1).toNat=E.toNat-1:=by omega
   rw[B1]at V;have A2:=qh B1;have E8:E-1<((wC (Q3 p k)).length:Int):=by omega
   have E9:(0:Int)<=E-1:=by omega
   have BO:=D (0<=(wC (Q3 p k)).getD (E-1).toNat 0/\(wC (Q3 p k)).getD (E-1).toNat 0<=1000000000) (by rw[Ab,Ad B0];exact BK.o.2 _ (As _));obtain⟨cv,AC⟩:∃cv,(wC (Q3 p k)).getD (E-1).toNat 0=cv:=⟨_,rfl⟩;rw[AC]at BO g;rw[<-A2.o,AC,A2.o]at V;clear B1;have BP:=qh AC;have EA:=BO.o;clear BM BN AC;by_cases BQ:1000000000<=cv
   ·have H:Q0f bk (pM p) (Q3 p k)=4:=by rw[g.o];simp[BQ]
    have K:=qh H;clear H;go_wp2_with(first|((go_at_call 224;(with_reducible refine(Q65 (pM p) l (HA.o.kept (Am A1.o)) AS.o A8.o).mono ?_);rintro e W4 ⟨rfl,rfl⟩))|((go_at_call 225;(with_reducible refine(Q82).mono ?_);rintro e W4 ⟨rfl,rfl⟩))|fail)
    go_ret;exact⟨by rw[K.o]<;>rfl,P,by unfold Q50;rw[if_neg (by rw[K.o];decide)];exact AB.o⟩
   ·have H:Q0f bk (pM p) (Q3 p k)=0:=by rw[g.o];simp[BQ,BL]
    have K:=qh H;obtain⟨⟨x0,x1⟩,-⟩:=Zj CU.o;clear H;go_upto_region 10 with(first|((go_at_call 224;(with_reducible refine(Q65 (pM p) l (HA.o.kept (Am A1.o)) AS.o A8.o).mono ?_);rintro e W4 ⟨rfl,rfl⟩))|((go_at_call 225;(with_reducible refine(Q82).mono ?_);rintro e W4 ⟨rfl,rfl⟩))|fail)
    go_upto_region 11 with((go_at_call 226;(with_reducible refine(Qi3 _ _ _ (pM p) (HA.o.kept (Am A1.o)) q0 q1 AR.o).mono ?_);rintro e W4 ⟨rfl,B⟩;have BR:=qh (Q0 A1.o B);clear B))
    obtain⟨⟨X,s⟩,u⟩:∃f,Zi (mC (pM p)) (q0,q1)=f:=⟨_,rfl⟩;have x:=Qf2 (cs:=mC (pM p)) (q0:=q0) (q1:=q1) (by have:=(J0 j.o.rok).1;rw[HQ.o]at this;exact this) l (by have:=j.o.nin;rw[HQ.o]at this;exact this);have B2:xM (mC (pM p)) (q0,q1)=Q7 (mC (pM p)) X/\yM (mC (pM p)) (q0,q1)=Q7 (mC (pM p)) s:=by unfold xM yM;rw[u];exact⟨rfl,rfl⟩
    rw[u]at x;rw[u];rw[B2.1,B2.2]at AZ;have y:=qh x;have HF:=qh u;have CX:=D (((aD (Q7 (mC (pM p)) X)).length<=1000/\(aW (Q7 (mC (pM p)) X)).length<=1000)/\((aD (Q7 (mC (pM p)) s)).length<=1000/\(aW (Q7 (mC (pM p)) s)).length<=1000)) (by have U:=j.o.small X x.1.1.1 x.1.1.2;have h2:=j.o.small s x.1.2.1 x.1.2.2;omega);have CY:=qh (BF.o.trans (BR.o.mono BF.o.size));have BS:=D ((mX (pM p)).length<=1000) (by rw[j.o.mx];simp);have AD:=qh ((Z4.start HP.o).below BR.o);have CZ:=qh j.o.free;have D0:=D (∀i,(Y5 (Yc bk (aV (Q7 (mC (pM p)) i)))).length<=1000000) (λi=>by
     unfold Yc;rw[Ab];rcases H:bk[(aV (Q7 (mC (pM p)) i)).toNat]? with _|n
     ·simp[Y5]
     ·have:=Q1s n n.length
      have B:=(BE.o n (Ho H)).1;rw[<-Q2i]at this;show(Y5 n).length<=_;omega)
    clear x u B2 x0 x1 k4 V;simp only;go_upto_region 12 with((go_at_call 227;(with_reducible refine(Qne A0 _ CY.o p0 c0 bk CS.o (pM p) P.S AD.o.pool.mem CT.o E X s l CZ.o y.o.1.1.1 y.o.1.1.2 y.o.1.2.1 y.o.1.2.2 y.o.2.1 y.o.2.2.1 y.o.2.2.2 AZ.o.1 AZ.o.2 CX.o j.o.len.2 BS.o).mono ?_);rintro e G ⟨v',S',l',rfl,F,hl⟩;have AE:=qh F;have AF:=qh hl;clear F hl))
    obtain⟨pv,D1,rfl⟩:=AF.o.form;obtain⟨⟨C,lk⟩,A6⟩:∃r,Yz bk (pM p) E X s=r:=⟨_,rfl⟩;rw[A6]at AE AF;rw[A6];have D2:=qh A6;simp only at AE AF⊢;have z:=qh (AD.o.trans o.o (AD.o.pool.ofMem AE.o));have D3:k<(pW (C,pW p,pA p)).length:=L;obtain⟨pr,cr,Gr,r2,BT,-,D4,BU⟩:=z.o.pool.focR D3;have r2:G.cell? ⟨P.wb,P.wo+k * 5+2,N⟩=R (A pr (wX (Q3 p k)).length cr):=r2;have BV:=D (Ow (.slice Q5) G [A pr (wX (Q3 p k)).length cr] (wX (Q3 p k)) Gr) (BT);have D5:=qh BU;obtain⟨px,BW,m4,A3⟩:=AE.o.mem.redexes;have BX:=qh A3;have EB:(wX (Q3 p k)).length<=cr:=by obtain⟨_,_,he,U,_⟩:=Jh BV.o.rd;simp only[List.cons.injEq,Value.slice.injEq,and_true]at he;omega
    have EC:((wX (Q3 p k)).length:Int)-1<=(cr:Int):=by omega
    have D6:=D ((mX C).length<=3000000) (by have U:=Qq8 bk (pM p) E X s;rw[A6]at U;have h2:=D0.o X;have h3:=BS.o;simp only at U;omega);have AG:P.wb<G.heap.size/\pb<G.heap.size/\pb≠P.wb:=by have U:=z.o.pool.wks.blk.lt;have h2:=z.o.pool.mem.blk.lt;have h3:=(z.o.pool.ap.1 P.wb Ae).1;exact⟨U,h2,λe=>h3 e.symm⟩
    have ED:=qh AG;have BY:=λq=>z.o.pool.wks.blk.free q;have D7:=D (∀W,Q1 (λc=>c=P.wb) G W->W.cell? ⟨pb,M+4,N⟩=R (A px (mX C).length BW)) (λW u=>Qo u m4 AG.2.2);obtain⟨i0,BZ,C0,C1,C2⟩:=info_parts Jj;have D8:=qh (BV.o.rd.init (m:=(wX (Q3 p k)).length-1) (by omega) hx);have D9:=qh (Q0d (t:=Q5) (T:=143) G G.heap.size rfl rfl);have C3:=D (((wX (Q3 p k)).take ((wX (Q3 p k)).length-1)).length<=1000000) (by rw[Cf];omega);have DA:=D (([]:List Wd).length+((wX (Q3 p k)).take ((wX (Q3 p k)).length-1)).length<=1000000000) (by have:=C3.o;simp only[Em];omega);have DB:=D (((wX (Q3 p k)).take ((wX (Q3 p k)).length-1)).length+(mX C).length<=1000000000) (by have:=C3.o;have:=D6.o;omega);have C4:=AG.1;have DC:=D (∀b∈S'.Fx,¬b=P.wb) (λb B e=>(z.o.pool.ap.1 P.wb Ae).2 (e▸Aa _ (Af _ B)));have OB:=D (∀b,(A (R ⟨G.heap.size,0,N⟩) 0 0).ownBlock=R b->G.heap.size<=b) (λb B=>by cases B;exact Aj _);clear BT BU A3 AG A6 D4;have EE:=Q7a;have EF:=Qtp;rw[<-Q7a _ (.tmp 79),<-Qtp _ (.tmp 80) (.tmp 81)]
    go_region_held3(λW=>W.cell? ⟨pb,M+4,N⟩=R (A px (mX C).length BW))
     (((with_reducible refine D7.o _ ?_);(first|(with_reducible first|exact AH.o|exact AI.o|exact V1 AH.o rfl _|exact Q1.drew (Q1.alloc (Q1.refl _ _) _)|exact Q1.drew (Q1.refl _ _))|fail)))
     (first|((refine J7 _ rfl (.tmp 76) (.tmp 82) 41 rfl (t:=Q5) (v:=A (R ⟨G.heap.size,0,N⟩) 0 0) (xs:=[]) (ys:=(wX (Q3 p k)).take ((wX (Q3 p k)).length-1)) rfl (by decide) G.heap.size 143 i0 _ 16 underlying41 BZ C0 C1 C2 rfl (by decide) rfl rfl (D9.o.kept (show Below _ _ _ by go_grown)) (D8.o.kept (Am (by go_grown))) DA.o (by simp) ?_;intro v6 w6 AJ C5;simp only[Bs]at AJ;obtain⟨p6,c6,rfl,-,-⟩:=AJ.form;have B3:=qh AJ;have B4:=D (Q1 (λ_=>False) G w6) (Q1.grown (Q1.drew (Q1.alloc (Q1.refl _ G) _)) C5 (λb B=> .inl (OB.o b B)));have AI:=qh (B4.o.mono (Y:=λc=>c=P.wb) (λ_ h=>h.elim));have DD:=AI.o.size;clear AJ C5))|((refine J7 _ rfl (.tmp 83) (.tmp 87) 41 rfl (t:=Q5) (v:=A p6 ((wX (Q3 p k)).take ((wX (Q3 p k)).length-1)).length c6) (xs:=(wX (Q3 p k)).take ((wX (Q3 p k)).length-1)) (ys:=mX C) rfl (by decide) G.heap.size 143 i0 _ 16 underlying41 BZ C0 C1 C2 rfl (by decide) rfl rfl B3.o (BX.o.frame AI.o (λb B=>⟨BX.o.lt b B,DC.o b B⟩)).rd DB.o DD ?_;intro v7 w7 B5 C6;obtain⟨p7,c7,rfl,-,-⟩:=B5.form;have C7:=qh B5;have A7:=qh (B4.o.grown C6 (λb B=> .inl (B3.o.block b B).1));have AH:=qh (A7.o.mono (Y:=λc=>c=P.wb) (λ_ h=>h.elim));have f7:=λq=>(A7.o.frozen C4 (λh=>h) q).trans (BY q);have r7:=(A7.o.cell C4 (λh=>h) (P.wo+k * 5+2)).trans r2;clear B5 C6))|fail)
    all_goals
     refine Qp ?_;intro W8 B6;obtain⟨F7,C8,C9,CA⟩:=C7.o.ow rfl;obtain⟨P8,h8⟩:=D5.o w7 p7 _ c7 _ F7 (A7.o.mono λ_ h=>h.elim) C8 C9 (λb B=> .inr (CA b B).1);have CB:((wX (Q3 p k)).take ((wX (Q3 p k)).length-1)++mX C).length=(wX (Q3 p k)).length-1+(mX C).length:=by rw[Bo,Cf];omega
     rw[CB]at h8;have B7:=D (Z4 w P pb M W8 (C,(pW p).set k (Yh (Q3 p k) ((wX (Q3 p k)).take ((wX (Q3 p k)).length-1)++mX C)),pA p) P8) (by rw[B6];exact z.o.trans o.o h8);have DE:=qh h8.fresh.2.2;have DF:=D (Q1 (λc=>c=P.wb) G W8) (by rw[B6];exact V1 AH.o rfl _);obtain⟨FL,AK,CC,B8⟩:=AF.o;have DG:=AD.o.fr.size;have CD:=HP.o.lt;have AL:=D (∀b∈FL,w.heap.size<=b/\b<G.heap.size/\b∉S'.all) (λb B=>⟨Au DG (B8 b B).1,AK.lt b B,(B8 b B).2⟩);have B9:=qh (AK.frame DF.o (λb B=>⟨AK.lt b B,λe=>by have:=CD P.wb (Aa _ PS.wb_all);have:=(AL.o b B).1;omega⟩));have DH:=qh CC;obtain⟨_,_,-,-,-,-,DI,-,-,-,-⟩:=B7.o.pool.mem.head;have DJ:=λq=>B7.o.pool.mem.blk.free q;clear B6 C8 C9 CA h8 CB AK CC B8 CD m4 r2 BY f7 r7 AH A7 AI B4 B3 C7;go_upto_region 14 with fail
     refine Qp ?_;intro W9 BA;obtain⟨P9,h9,-,-,CE⟩:=B7.o.noX;have a:=D (Z4 w P pb M W9 ((mC C,mF C,mR C,[]),(pW p).set k (Yh (Q3 p k) ((wX (Q3 p k)).take ((wX (Q3 p k)).length-1)++mX C)),pA p) P9) (by rw[BA];exact h9);have DK:=qh CE;have DL:=D (Ow (.slice Z7) W9 [A pv lk.length D1] lk FL) (by rw[BA];exact B9.o.frame (Zw _ _ _ _) (λb B=>⟨B9.o.lt b B,λe=>by have:=o.o;have:=(AL.o b B).1;omega⟩));have CF:k<(pW ((mC C,mF C,mR C,[]),(pW p).set k (Yh (Q3 p k) ((wX (Q3 p k)).take ((wX (Q3 p k)).length-1)++mX C)),pA p)).length:=by show k<((pW p).set k _).length;rw[Bl];exact L
     obtain⟨_,_,_,_,_,_,_,_,_,⟨-,-,-,l9,-⟩,-,-,-,-,-,-,-⟩:=a.o.pool.focus CF;have CG:=λq=>a.o.pool.wks.blk.free q;rw[a.o.fresh.1,a.o.fresh.2.1]at l9;rw[a.o.fresh.1]at CG;clear BA h9 CE DI DJ B9;go_upto_region 15 with fail
     refine Qp ?_;intro CH CI;obtain⟨EG,AM,-,-,-,-⟩:=a.o.setL o.o CF DL.o DH.o (λb B=>⟨(AL.o b B).1,λF=>by
      obtain⟨b1,b2,b3⟩:=AL.o b B;have EH:=o.o;rcases Aq.1 F with e|F
      ·omega
      ·rcases DE.o b (DK.o b F)with F|F
       ·rcases At0.1 F with F|F
        ·exact b3 F
        ·have:=HP.o.lt b (Aa _ (Af _ F));omega
       ·omega⟩)
     rw[a.o.fresh.1,a.o.fresh.2.1,Q9f L,Qiy]at AM;rw[<-CI]at AM;have BB:=qh AM;have DM:k<(pW ((mC C,mF C,mR C,[]),(pW p).set k (Q9s (Yh (Q3 p k) ((wX (Q3 p k)).take ((wX (Q3 p k)).length-1)++mX C)) lk),pA p)).length:=by show k<((pW p).set k _).length;rw[Bl];exact L
     obtain⟨CJ,CK,DN,k4,V,kf,CL⟩:=BB.o.setN (i:=(E-1).toNat) o.o DM (by rw[Q9f L];exact B0);have DO:=qh CL;rw[BB.o.fresh.1,BB.o.fresh.2.1,Q9f L]at k4;rw[Q9f L]at V;have k4:CH.cell? ⟨P.wb,P.wo+k * 5+4,N⟩=R (A (R ⟨CJ,CK,N⟩) (wC (Q3 p k)).length DN):=k4;have V:CH.cell? ⟨CJ,CK+(E-1).toNat,N⟩=R (I Z ((wC (Q3 p k)).getD (E-1).toNat 0)):=V;rw[BP.o,A2.o]at V;clear CI AM l9 CG CL;go_wp2_with fail
     go_ret;obtain⟨DP,CM,-,-⟩:=DO.o (cv+1) (by unfold Qyn;omega);rw[Q9f L,Qiy,A2.o]at CM;refine⟨by rw[K.o]<;>rfl,DP, ?_⟩;have DQ:Q50 bk p k=((mC C,mF C,mR C,[]),(pW p).set k (Qv9 (Q9s (Yh (Q3 p k) ((wX (Q3 p k)).take ((wX (Q3 p k)).length-1)++mX C)) lk) ((wC (Q3 p k)).set (E.toNat-1) (cv+1))),pA p):=by
      unfold Q50;rw[if_pos K.o];unfold Q8p;rw[HQ.o];have DR:(wC (Q3 p k)).getD (E.toNat-1) 0=cv:=by rw[<-A2.o];exact BP.o
      simp only[CW.o,HF.o,D2.o,A2.o,DR];rfl
     rw[DQ];exact CM
 ·have H:Q0f bk (pM p) (Q3 p k)=AY:=by rw[g.o];simp[A5]
  have K:=qh H;have DS:=qh A5;have EI:(AY !=0)=true:=by simpa using A5
  clear H A5;go_wp2_with fail
  go_ret;exact⟨by rw[K.o]<;>rfl,P,by unfold Q50;rw[if_neg (by rw[K.o];exact DS.o)];exact AB.o⟩
def Q4a{p}{k:Nat}(h:Q0y p)(E:k<(pW p)):(1<=(pW p).length/\(pW p).length<=4)/\(1<=wP (Q3 p k)/\wP (Q3 p k)<=4)/\(0<=wV (Q3 p k)/\wV (Q3 p k)<(pW p))/\(wL (Q3 p k)).length<=1500/\(wX (Q3 p k)).length<=1500/\(0<=pA p/\pA p<=4):=by
 obtain⟨G,L,H,M,J⟩:=Q1c h;obtain⟨O,P,-⟩:=Q5y J;have B:=H k E;unfold Y4 at B;simp only[Bool.and_eq_true,decide_eq_true_eq]at B;obtain⟨⟨C,F,-,K⟩,-⟩:=B;have C:=Qj.1 C;have F:=Qj.1 F;have:=Qck E;have S:=Dn (p:=Qz) (l:=pW p);exact⟨G,C,by omega,K,by omega,by omega⟩
def Qem{p}{k:Nat}(h:Q0y p)(E:k<(pW p))(F:0<(wL (Q3 p k)).length):Zc (mC (pM p)) (Q32 (Q3 p k)).1=true/\Zc (mC (pM p)) (Q32 (Q3 p k)).2=true:=by
 obtain⟨-,-,-,-,G⟩:=Q1c h;obtain⟨-,-,-,B,-⟩:=Q5y G;have H:Q32 (Q3 p k)∈wL (Q3 p k):=by unfold Q32;rw[Ab,Ad F];exact As _
 have C:∀x∈ [(Q32 (Q3 p k)).1,(Q32 (Q3 p k)).2],x∈Z8 (pM p)++Jd (pW p):=λx J=>by refine Af _ (Cz.2 ⟨Q3 p k,by rw[Q9u E];exact As _,Cz.2 ⟨_,H,J⟩⟩)
 exact⟨B _ (C _ (by simp)),B _ (C _ (by simp))⟩
def Qca(p k):Q1g p k=(!(wV (Q3 p k)==(k:Int)) && decide (0<(wX (Q3 p (wV (Q3 p k)).toNat)).length)):=rfl
theorem Qko{p k y z}:Q08 (Q08 p k y) k z=Q08 p k z:=by unfold Q08;simp only[pM,pW,pA,He]
def Qsb(bk:List Qy0)(p:Ye)(k:Nat)(w:Bh)(P:PS)(pb po:Nat)(e:Ending)(w':Bh):Prop:=∃kd,e=.returned (.tuple #[I Z kd,I Z (Yo bk p k).1])/\∃P',Z4 w P pb po w' (Yo bk p k).2 P'
theorem Quc(A2 w)(AS:Below A2.heap.size A2 w)(p0 c0)(bk:List Qy0)(AT:Rd (.slice Jl) A2 [A p0 bk.length c0] bk)(BS:bk.length<=Bu)(AU:∀n∈bk,Qbs n)(AV:∀n∈bk,Yd n=true){pb U}(p P k)(h:Y2 w pb U p P)(hS:∀b∈pb::P.all,A2.heap.size<=b)(F:k<(pW p).length)(A7:Q0y p):
  Bv prog 154 #[A p0 bk.length c0,.pointer (R ⟨pb,U,N⟩),I Z k] w (Qsb bk p k w P pb U):=by
 have AF:=qh (Z4.start h);have M:=D (pb<w.heap.size) (h.mem.blk.lt);have BT:=Q4a A7 F;obtain⟨⟨BU,BV⟩,⟨D9,DA⟩,⟨BW,BX⟩,DB,DC,DD,DE⟩:=BT;have A0:(wV (Q3 p k)).toNat<(pW p).length:=by omega
 obtain⟨⟨cw,d5,DF⟩,S,⟨Y,i,⟨px,cx,e2⟩,pl,cl,e3⟩,c,V,DG,DH,DI⟩:=AF.o.cells F;have BY:(0:Int)<=(k:Int):=by omega
 have DJ:(k:Int)<((pW p).length:Int):=by omega
 have BZ:=qh hS;have C0:=qh AS;have HH:=qh h;have C1:=qh AT;have C2:=qh AU;have C3:=qh AV;have AW:=qh A7;have C4:=qh BS;have AX:=D (0<(wL (Q3 p k)).length->_) (Qem A7 F);clear AT AU AV A7 h hS AS;by_cases q1:0<(wL (Q3 p k)).length
 ·have E:=D (Yo bk p k=(0,((Ja (pM p) (Q3 p k)).1,(pW p).set k (Ja (pM p) (Q3 p k)).2,pA p))) (by unfold Yo;simp only;rw[if_pos q1])
  have AG:=qh q1;have C5:(0:Int)<(wL (Q3 p k)).length:=by omega
  have AY:=D ((wL (Q3 p k)).length<=1000000/\(wX (Q3 p k)).length<=1000000) (by omega);go_enter func154,ntmps154;go_wp2_with((go_at_call 190;(with_reducible refine(Qmw pb U p P k HH.o F AG.o AY.o.1 AY.o.2 (AX.o AG.o).1 (AX.o AG.o).2).mono ?_);rintro e w1 ⟨rfl,G⟩;have HR:=qh G;clear G))
  go_ret2
  exact⟨1,by rw[E.o]<;>rfl,by rw[E.o];exact HR.o⟩
 have C5:¬(0:Int)<(wL (Q3 p k)).length:=by omega
 by_cases q2:0<(wX (Q3 p k)).length
 ·obtain⟨l,AZ⟩:=Qlm bk AW.o F q2
  have C6:=qh AZ;have E:=D (Yo bk p k=(Q0f bk (pM p) (Q3 p k),Q50 bk p k)) (by
   unfold Yo Q50;simp only;rw[if_neg q1,if_pos q2];by_cases e:Q0f bk (pM p) (Q3 p k)=0
   ·simp[e]
   ·simp[e])
  have C7:=qh q2;have C8:(0:Int)<(wX (Q3 p k)).length:=by omega
  clear AZ;go_enter func154,ntmps154;go_wp2_with((go_at_call 191;(with_reducible refine(Qt0 A2 _ C0.o p0 c0 bk C1.o C4.o C2.o C3.o pb U p P k HH.o BZ.o F C7.o l C6.o).mono ?_);rintro e w1 ⟨rfl,G⟩;have HR:=qh G;clear G))
  go_ret2
  exact⟨2,by rw[E.o]<;>rfl,by rw[E.o];exact HR.o⟩
 have C8:¬(0:Int)<(wX (Q3 p k)).length:=by omega
 have L:=qh (show Yo bk p k=(if wP (Q3 p k)==1 then(0,(pM p,(pW p).set k (Q6k (Yx (Q3 p k) 2) (Q0r (pW p).length k k)),pA p-1))
  else if wP (Q3 p k)==3 then
   if Q1g p k then(0,(pM p,((pW p).set k (Yx (Yh (Q3 p k) [(wX (Qjd p k)).getD 0 (0,0)]) 1)).set (wV (Q3 p k)).toNat (Yh (Qjd p k) ((wX (Qjd p k)).drop 1)),pA p))
   else(0,(pM p,(pW p).set k (Yx (Q3 p k) 2),pA p-1))
  else if pA p==0 then(0,(pM p,(pW p).set k (Yx (Q3 p k) 4),pA p))
  else if Q1g p k then(0,(pM p,(pW p).set k (Yx (Q3 p k) 3),pA p+1))
  else(0,(pM p,(pW p).set k (Q6k (Q3 p k) (Q0r (pW p).length (wV (Q3 p k)) k)),pA p)))by unfold Yo;simp only;rw[if_neg q1,if_neg q2])
 have B0:∀y,(pW (Q08 p k y)).length=(pW p).length:=λy=>by show((pW p).set k y).length=_;rw[Bl]
 have d:=qh B0;have j:=D (Qyn 1/\Qyn 2/\Qyn 3/\Qyn 4/\Qyn (pA p-1)/\Qyn (pA p+1)) (by unfold Qyn;omega);have B1:=D (∀a wo:Int,Qyn (Q0r (pW p).length a wo)) (λa wo=>by unfold Q0r Qyn;have h1:=Fz (a+1) (show((pW p).length:Int)≠0 by omega);have H:=Ez (a+1) (show(0:Int)<((pW p).length:Int)by omega);have h3:=Fz ((a+1)%((pW p).length:Int)+1) (show((pW p).length:Int)≠0 by omega);have h4:=Ez ((a+1)%((pW p).length:Int)+1) (show(0:Int)<((pW p).length:Int)by omega);split<;>omega);clear B0 q1 q2;by_cases q3:wP (Q3 p k)=1
 ·have E:=D (Yo bk p k=(0,(pM p,(pW p).set k (Q6k (Yx (Q3 p k) 2) (Q0r (pW p).length k k)),pA p-1))) (by rw[L.o,q3];rfl)
  rw[q3]at Y;clear q3 L;go_enter func154,ntmps154;go_upto_region 9 with fail
  refine Qp ?_;intro J A3;obtain⟨P1,h1⟩:=AF.o.stP M.o F j.o.2.1;rw[<-A3]at h1;have T:=qh h1;have B2:k<(pW (Q08 p k (Yx (Q3 p k) 2))).length:=by rw[d.o];exact F
  have AH:=qh h1.pool.at;clear A3 h1 Y i e2 e3 d5 S c V;obtain⟨-,S,⟨-,i,-,-⟩,c,V,AI,C9,-⟩:=T.o.cells B2;have B3:=D (1<=(pW (Q08 p k (Yx (Q3 p k) 2))).length/\(pW (Q08 p k (Yx (Q3 p k) 2))).length<=4) (by rw[d.o];omega);have CA:=D ((k:Int)<((pW (Q08 p k (Yx (Q3 p k) 2))).length:Int)) (by rw[d.o];omega);go_upto_region 10 with((go_at_call 192;(with_reducible refine(Qr2 (pM (Q08 p k (Yx (Q3 p k) 2))) (pW (Q08 p k (Yx (Q3 p k) 2))) (pA (Q08 p k (Yx (Q3 p k) 2))) (k:Int) (k:Int) AH.o B3.o.1 B3.o.2 BY CA.o).mono ?_);rintro e w2 ⟨rfl,rfl⟩))
  refine Qp ?_;intro W2 f;obtain⟨P2,H⟩:=T.o.stV M.o B2 (B1.o k k);rw[d.o]at f;rw[<-f]at H;have m:=qh H;have A4:k<(pW (Q08 (Q08 p k (Yx (Q3 p k) 2)) k (Q6k (Q3 (Q08 p k (Yx (Q3 p k) 2)) k) (Q0r (pW p).length k k)))).length:=by rw[Qko,d.o];exact F
  clear f H S i c V;obtain⟨-,o,-,-,V,-,B4,-⟩:=m.o.cells A4;have S:W2.cell? ⟨pb,U+6,N⟩=R (I Z (pA p)):=o;clear o;go_wp2_with fail
  go_ret2
  have h3:=m.o.stA M.o j.o.2.2.2.2.1;refine⟨3,by rw[E.o]<;>rfl, ?_⟩;rw[E.o];rw[Qko,Q27 F,if_pos rfl]at h3;exact⟨_,h3⟩
 have DK:=qh q3;have CB:(wP (Q3 p k)==1)=false:=by simpa using q3
 have DL:=D (Qyn (wV (Q3 p k))) (by unfold Qyn;omega);have CC:wV (Q3 p k)<((pW p).length:Int):=BX;have B5:=qh (Qca p k);obtain⟨C,A8⟩:∃C,(wV (Q3 p k)).toNat=C:=⟨_,rfl⟩;rw[A8]at A0 B5;have r:=qh A8;have CD:=D (Qjd p k=Q3 p C) (by unfold Qjd;rw[A8]);clear A8;have s:=D ((Q1g p k=true/\wV (Q3 p k)≠(k:Int)/\0<(wX (Q3 p C)).length)\/(Q1g p k=false/\(wV (Q3 p k)=(k:Int)\/(wV (Q3 p k)≠(k:Int)/\(wX (Q3 p C)).length=0)))) (by
  rw[B5.o];by_cases c1:wV (Q3 p k)=(k:Int)
  ·exact .inr ⟨by simp[c1],.inl c1⟩
  ·by_cases c2:0<(wX (Q3 p C)).length
   ·exact .inl ⟨by simp[c1,c2],c1,c2⟩
   ·have c3:(wX (Q3 p C)).length=0:=by omega
    exact .inr ⟨by simp[c3],.inr ⟨c1,c3⟩⟩)
 clear L
 have L:=qh (show Yo bk p k=(if wP (Q3 p k)==3 then
   if Q1g p k then(0,(pM p,((pW p).set k (Yx (Yh (Q3 p k) [(wX (Q3 p C)).getD 0 (0,0)]) 1)).set C (Yh (Q3 p C) ((wX (Q3 p C)).drop 1)),pA p))
   else(0,(pM p,(pW p).set k (Yx (Q3 p k) 2),pA p-1))
  else if pA p==0 then(0,(pM p,(pW p).set k (Yx (Q3 p k) 4),pA p))
  else if Q1g p k then(0,(pM p,(pW p).set k (Yx (Q3 p k) 3),pA p+1))
  else(0,(pM p,(pW p).set k (Q6k (Q3 p k) (Q0r (pW p).length (wV (Q3 p k)) k)),pA p)))by unfold Yo;simp only;rw[if_neg (by omega),if_neg (by omega),CD.o,r.o,CB];rfl)
 go_enter func154,ntmps154;go_upto_region 12 with fail
 go_quiet(fail)
 refine Qp ?_;intro J A3;have T:=D (Z4 w P pb U J p P) (by rw[A3];exact AF.o.below (Q8 (Ai _ _) _));clear A3 Y i e2 e3 d5 S c V;obtain⟨-,S,⟨Y,i,-,-⟩,c,V,AI,C9,-⟩:=T.o.cells F;obtain⟨-,-,⟨-,-,⟨pv,cv,B6⟩,-⟩,-,-,-,-,-⟩:=T.o.cells A0;have u:J.cell? ⟨P.wb,P.wo+(wV (Q3 p k)).toNat * 5+2,N⟩=R (A pv (wX (Q3 p C)).length cv):=by rw[r.o];exact B6
 clear B6;by_cases q4:wP (Q3 p k)=3
 ·rcases s.o with⟨G,z,A1⟩|⟨G,K⟩
  ·have E:=D (Yo bk p k=(0,(pM p,((pW p).set k (Yx (Yh (Q3 p k) [(wX (Q3 p C)).getD 0 (0,0)]) 1)).set C (Yh (Q3 p C) ((wX (Q3 p C)).drop 1)),pA p))) (by rw[L.o,q4,G];rfl)
   have A5:(wV (Q3 p k) !=(k:Int))=true:=by simpa using z
   have CE:(0:Int)<(wX (Q3 p C)).length:=by omega
   rw[q4]at Y;have CF:=qh A1;have AJ:=D (k≠C) (λe=>z (by have:=r.o;omega));clear u;obtain⟨DM,CG,Gv,B7,B8,-,DN,-⟩:=T.o.focR M.o A0;obtain⟨bv,ov,rfl,hE⟩:=Rd.elem B8.rd 0 A1;have u:J.cell? ⟨P.wb,P.wo+(wV (Q3 p k)).toNat * 5+2,N⟩=R (A (R ⟨bv,ov,N⟩) (wX (Q3 p C)).length CG):=by rw[r.o];exact B7
   have CH:=D ((wX (Q3 p C)).getD 0 (0,0)=((wX (Q3 p C))[0].1,(wX (Q3 p C))[0].2)) (by rw[Ab,Ad A1];rfl);obtain⟨f0,f1,i0,i1⟩:=At.word (t:=(wX (Q3 p C))[0].1) (a:=(wX (Q3 p C))[0].2) hE;simp only[Ty.sz,Bj,Nat.zero_mul,Nat.add_zero]at f0 f1;have B9:=Ac J _ f0;simp only at B9;generalize (wX (Q3 p C))[0].1=ra at *
   generalize (wX (Q3 p C))[0].2=rb at *
   have CI:=D (Q55 (.slice Q5) ([(ra,rb)]:List (Int×Int))) (Q29 (Q4z i0 i1));obtain⟨DO,DP,Gk,BA,CJ,-,-,BB⟩:=T.o.focR M.o F;have CK:=qh BB;have OB:=D (∀b,(A (R ⟨J.heap.size,0,N⟩) 0 0).ownBlock=R b->J.heap.size<=b) (λb W=>by cases W;exact Aj _);obtain⟨BC,BD,BE,BF,BG⟩:=info_parts Jj;have CL:=D (J.heap.size<=((J.alloc (.cells #[] 143)).alloc (.cells #[I Z ra,I Z rb] 143)).heap.size) ((((Q1.refl (λ_=>False) J).alloc _).alloc _).size);have CM:=D (([(ra,rb)]:List (Int×Int)).length<=Bu) (by simp[Bu]);have CN:=D (([]:List (Int×Int)).length+([(ra,rb)]:List (Int×Int)).length<=1000000000) (by simp);have CO:=D ((wX (Q3 p C)).length<=1500) ((Q4a AW.o A0).2.2.2.2.1);clear B7 B8 hE i0 i1 CJ BB L s G z;go_upto_region 15 with fail
   go_upto_region 16 with(at_builtin;refine Ql _ rfl (.tmp 89) (.tmp 96) 41 rfl (t:=Q5) (v:=A (R ⟨J.heap.size,0,N⟩) 0 0) (xs:=[]) (ys:=[(ra,rb)]) rfl (by decide) J.heap.size 143 BC _ 16 underlying41 BD BE BF BG rfl (by decide) rfl rfl ((Q0d J _ rfl rfl).kept (Below.alloc (Ai _ _) (Aj _) _)) ((Qxu.of_block (t:=Q5) (xs:=[(ra,rb)]) (B:=0) (Jt J _ _ _ _).2 (Ak _) rfl rfl CI.o CM.o).rd rfl) CN.o CL.o ?_;intro v5 w5 A9 BH;simp only[Bs]at A9;obtain⟨p5,c5,rfl,-,-⟩:=A9.form;have CP:=qh A9;have AK:=qh (Q1.grown (X:=λ_=>False) (a:=J) (((Q1.refl _ J).alloc _).alloc _) BH (λb W=> .inl (OB.o b W)));have k5:=(AK.o.cell AI (λh=>h) (P.wo+k * 5+2)).trans BA;have f5:=λq=>(AK.o.frozen AI (λh=>h) q).trans (c q);clear A9 BH)
   refine Qp ?_;intro O BI;obtain⟨F5,BJ,BK,BL⟩:=CP.o.ow rfl;obtain⟨P6,h6⟩:=CK.o w5 p5 1 c5 [(ra,rb)] F5 AK.o BJ BK (λb W=>(BL b W).1);rw[<-BI]at h6;have AA:=qh h6;have CQ:C<(pW (Q08 p k (Yh (Q3 p k) [(ra,rb)]))).length:=by rw[d.o];exact A0
   have AL:Q3 (Q08 p k (Yh (Q3 p k) [(ra,rb)])) C=Q3 p C:=by rw[Q27 F,if_neg AJ.o]
   have BM:=qh AL;obtain⟨DQ,A6,DR,AM,AB,-,CR,BN⟩:=AA.o.focR M.o CQ;rw[AL]at AM AB CR;obtain⟨CS,CT,rfl,-⟩:=Rd.elem AB.rd 0 CF.o;have AN:O.cell? ⟨P.wb,P.wo+(wV (Q3 p k)).toNat * 5+2,N⟩=R (A (R ⟨CS,CT,N⟩) (wX (Q3 p C)).length A6):=by rw[r.o];exact AM
   have CU:=qh AB;have BO:=qh BN;have AO:=λq=>AA.o.pool.wks.blk.free q;have AC:=AA.o.pool.wks.blk.lt;rw[AA.o.fresh.1]at AO AC;have CV:=D (∀b,(A (R ⟨O.heap.size,0,N⟩) 0 0).ownBlock=R b->O.heap.size<=b) (λb W=>by cases W;exact Aj _);have DS:1<=(wX (Q3 p C)).length:=A1;have CW:(1:Int)<=(wX (Q3 p C)).length:=by omega
   have DT:(1:Int)<=A6:=by omega
   have CX:=D (([]:List Wd).length+((wX (Q3 p C)).drop 1).length<=1000000000) (by rw[Dp];have:=CO.o;simp only[Em];omega);have CY:=D (O.heap.size<=(O.alloc (.cells #[] 143)).heap.size) (((Q1.refl (λ_=>False) O).alloc _).size);clear BI h6 BJ BK BL S Y i c V BA f0 f1 k5 f5 AM AB BN AL u B9;by_cases CZ:1=A6;case' pos=>
    subst CZ;have D0:(wX (Q3 p C)).length=1:=by omega
    rw[D0]at AN CW;go_upto_region 17 with fail
    refine Qp ?_;intro W7 AD;obtain⟨g,AP⟩:∃g,Hd (Z4 w P pb U W7 (Q08 (Q08 p k (Yh (Q3 p k) [(ra,rb)])) C (Yh (Q3 p C) ((wX (Q3 p C)).drop 1))) g):=by rw[AD,<-World.setCell_alloc_past _ _ _ _ AC,r.o];obtain⟨g,h7⟩:=BO.o (O.alloc (.cells #[] 143)) (R ⟨O.heap.size,0,N⟩) 0 0 [] [] ((Q1.refl _ _).alloc _) ⟨_,rfl,.inl ⟨rfl,rfl,_,rfl,λx hx=>by cases hx;rfl⟩⟩ (by simp) (by simp);rw[BM.o]at h7;rw[List.drop_eq_nil_of_le (by omega)];exact⟨g,qh h7⟩
   case' neg=>
    have D1:=qh (CU.o.rd.tail A1 (show 1<A6 by omega));have DU:(1:Int)<A6:=by omega
    go_upto_region 17 with(at_builtin;refine Ql _ rfl (.tmp 101) (.tmp 106) 41 rfl (t:=Q5) (v:=A (R ⟨O.heap.size,0,N⟩) 0 0) (xs:=[]) (ys:=(wX (Q3 p C)).drop 1) rfl (by decide) O.heap.size 143 BC _ 16 underlying41 BD BE BF BG rfl (by decide) rfl rfl (Q0d O _ rfl rfl) (D1.o.kept (Am (Below.alloc (Ai _ _) (Aj _) _))) CX.o CY.o ?_;intro v7 w7 AE BP;simp only[Bs]at AE;obtain⟨p7,c7,rfl,-,-⟩:=AE.form;have D2:=qh AE;have AQ:=qh (Q1.grown (X:=λ_=>False) (a:=O) ((Q1.refl _ O).alloc _) BP (λb W=> .inl (CV.o b W)));have k7:=(AQ.o.cell AC (λh=>h) (P.wo+(wV (Q3 p k)).toNat * 5+2)).trans AN;have f7:=λq=>(AQ.o.frozen AC (λh=>h) q).trans (AO q);clear AE BP)
    refine Qp ?_;intro W7 AD;obtain⟨g,AP⟩:∃g,Hd (Z4 w P pb U W7 (Q08 (Q08 p k (Yh (Q3 p k) [(ra,rb)])) C (Yh (Q3 p C) ((wX (Q3 p C)).drop 1))) g):=by rw[AD,r.o];obtain⟨F7,D3,D4,D5⟩:=D2.o.ow rfl;obtain⟨g,h7⟩:=BO.o w7 p7 _ c7 _ F7 AQ.o D3 D4 (λb W=>(D5 b W).1);rw[BM.o]at h7;simp only[Dp]at h7;exact⟨g,qh h7⟩
    clear k7 f7
   all_goals
    clear AD AN AO;have BQ:k<(pW (Q08 (Q08 p k (Yh (Q3 p k) [(ra,rb)])) C (Yh (Q3 p C) ((wX (Q3 p C)).drop 1)))).length:=by show k<(((pW p).set k _).set C _).length;rw[Bl,Bl];exact F
    obtain⟨-,-,⟨DV,-,-,-⟩,DW,-,-,-,-⟩:=AP.o.cells BQ;go_wp2_with fail
    go_ret2
    obtain⟨P8,h8⟩:=AP.o.stP M.o BQ j.o.1;refine⟨5,by rw[E.o]<;>rfl, ?_⟩;rw[E.o,CH.o];have D6:Q08 (Q08 (Q08 p k (Yh (Q3 p k) [(ra,rb)])) C (Yh (Q3 p C) ((wX (Q3 p C)).drop 1))) k (Yx (Q3 (Q08 (Q08 p k (Yh (Q3 p k) [(ra,rb)])) C (Yh (Q3 p C) ((wX (Q3 p C)).drop 1))) k) 1)=(pM p,((pW p).set k (Yx (Yh (Q3 p k) [(ra,rb)]) 1)).set C (Yh (Q3 p C) ((wX (Q3 p C)).drop 1)),pA p):=by
     have D7:Q3 (Q08 (Q08 p k (Yh (Q3 p k) [(ra,rb)])) C (Yh (Q3 p C) ((wX (Q3 p C)).drop 1))) k=Yh (Q3 p k) [(ra,rb)]:=by rw[Q27 (by rw[d.o];exact A0),if_neg (λe=>AJ.o e.symm),Q27 F,if_pos rfl]
     rw[D7];unfold Q08;simp only[pM,pW,pA];rw[List.set_comm _ _ (λe=>AJ.o e.symm),He]
    rw[D6]at h8;exact⟨P8,h8⟩
  ·have E:=D (Yo bk p k=(0,(pM p,(pW p).set k (Yx (Q3 p k) 2),pA p-1))) (by rw[L.o,q4,G];rfl)
   rw[q4]at Y;clear G q4 L s;rcases K with K|⟨K,hc2⟩;case' inl=>have A5:(wV (Q3 p k) !=(k:Int))=false:=by simp[K]
   case' inr=>
    have A5:(wV (Q3 p k) !=(k:Int))=true:=by simpa using K
    rw[hc2]at u
   all_goals
    have D8:=qh K;clear K;go_upto_region 20 with fail
    refine Qp ?_;intro W2 f;obtain⟨P2,H⟩:=T.o.stP M.o F j.o.2.1;rw[<-f]at H;have m:=qh H;have A4:k<(pW (Q08 p k (Yx (Q3 p k) 2))).length:=by rw[d.o];exact F
    clear f H S Y i c V u;obtain⟨-,o,-,-,V,-,B4,-⟩:=m.o.cells A4;have S:W2.cell? ⟨pb,U+6,N⟩=R (I Z (pA p)):=o;clear o;go_wp2_with fail
    go_ret2
    exact⟨3,by rw[E.o]<;>rfl,by rw[E.o];exact⟨_,m.o.stA M.o j.o.2.2.2.2.1⟩⟩
 have AR:(wP (Q3 p k)==3)=false:=by simpa using q4
 by_cases q5:pA p=0
 ·have E:=D (Yo bk p k=(0,(pM p,(pW p).set k (Yx (Q3 p k) 4),pA p))) (by rw[L.o,AR,q5];rfl)
  rw[q5]at S;clear L s;go_wp2_with fail
  go_ret2
  obtain⟨P2,H⟩:=T.o.stP M.o F j.o.2.2.2.1;exact⟨6,by rw[E.o]<;>rfl,by rw[E.o];exact⟨P2,H⟩⟩
 have BR:(pA p==0)=false:=by simpa using q5
 rcases s.o with⟨G,z,A1⟩|⟨G,K⟩
 ·have E:=D (Yo bk p k=(0,(pM p,(pW p).set k (Yx (Q3 p k) 3),pA p+1))) (by rw[L.o,AR,BR,G];rfl)
  have A5:(wV (Q3 p k) !=(k:Int))=true:=by simpa using z
  have DX:=qh z;have CE:(0:Int)<(wX (Q3 p C)).length:=by omega
  clear L s G z;go_upto_region 27 with fail
  refine Qp ?_;intro W2 f;obtain⟨P2,H⟩:=T.o.stP M.o F j.o.2.2.1;rw[<-f]at H;have m:=qh H;have A4:k<(pW (Q08 p k (Yx (Q3 p k) 3))).length:=by rw[d.o];exact F
  clear f H S Y i c V u;obtain⟨-,o,-,-,V,-,B4,-⟩:=m.o.cells A4;have S:W2.cell? ⟨pb,U+6,N⟩=R (I Z (pA p)):=o;clear o;go_wp2_with fail
  go_ret2
  exact⟨4,by rw[E.o]<;>rfl,by rw[E.o];exact⟨_,m.o.stA M.o j.o.2.2.2.2.2⟩⟩
 ·have E:=D (Yo bk p k=(0,(pM p,(pW p).set k (Q6k (Q3 p k) (Q0r (pW p).length (wV (Q3 p k)) k)),pA p))) (by rw[L.o,AR,BR,G];rfl)
  have AH:=qh T.o.pool.at;clear L s G;rcases K with K|⟨K,hc2⟩;case' inl=>have A5:(wV (Q3 p k) !=(k:Int))=false:=by simp[K]
  case' inr=>
   have A5:(wV (Q3 p k) !=(k:Int))=true:=by simpa using K
   rw[hc2]at u
  all_goals
   have D8:=qh K;clear K;go_wp2_with((go_at_call 192;(with_reducible refine(Qr2 (pM p) (pW p) (pA p) (wV (Q3 p k)) (k:Int) AH.o BU BV BW CC).mono ?_);rintro e w2 ⟨rfl,rfl⟩))
   go_ret2
   obtain⟨P2,H⟩:=T.o.stV M.o F (B1.o (wV (Q3 p k)) k);exact⟨4,by rw[E.o]<;>rfl,by rw[E.o];exact⟨P2,H⟩⟩
theorem Qu7{α:Type}{f:Qyb×List Qy3->α->Qyb×List Qy3}(B:∀s a,(f s a).2.length=s.2.length+1):∀(l:List α) (s:Qyb×List Qy3),(l.foldl f s).2.length=s.2.length+l.length
 | [],_=>rfl
 |a::l,s=>by rw[List.foldl_cons,Qu7 B l,B s a,Br];omega
def Qqc(bk m B a b):(Yz bk m B a b).2.length<=2+(aW (Q7 (mC m) b)).length:=by
 grind[Yz,Qa4,Qu7,Zq,Ym,Q40,Jx]
def Qd2{p}(h:Q0y p):Y8 4 (pM p)/\((mC (pM p)).length<=1500/\mX (pM p)=[]/\(pW p).length<=4)/\∀v∈pW p,(wX v).length<=1500/\(wL v).length<=1500/\(wC v).length=7:=by
 obtain⟨C,E,F,L,G⟩:=Q1c h;obtain⟨H,M,O,-⟩:=Q5y G;refine⟨λc P=> ?_,⟨H.2,E,C.2⟩,λv J=> ?_⟩
 ·grind[List.mem_iff_getElem,Qed,Qy]
 obtain⟨k,B,rfl⟩:=Av.1 J;rw[<-Q9u B];have S:=Q4a h B;have K:=F k B;unfold Y4 Vj at K;grind
theorem Qbw{P:Qxb->Prop}{l:List Qxb}{k y}(h:∀v∈l,P v)(B:P y):∀v∈l.set k y,P v:=by grind
def Qt9{P:Qxb->Prop}{p k}(h:∀v∈pW p,P v)(B:P Qbj):P (Q3 p k):=by
 unfold Q3;grind
theorem Qnd{bk:List Qy0}{p k}(h:Q0y p)(O:∀n∈bk,∀i,(aD (Q9 n i)).length<=1000/\(aW (Q9 n i)).length<=1000)(U:∀n∈bk,n.length<=1000):Q0p (Yo bk p k).2/\(mC (pM (Yo bk p k).2)).length=(mC (pM p))/\(pW (Yo bk p k).2).length=(pW p):=by
 obtain⟨L,⟨B,F,G⟩,V⟩:=Qd2 h;have P:∀v∈pW p,(wX v).length<=1500/\(wL v).length<=1500/\(wC v).length<=7:=λv M=>by have:=V v M;omega
 have S:∀j,(wX (Q3 p j)).length<=1500/\(wL (Q3 p j)).length<=1500/\(wC (Q3 p j)).length<=7:=λj=>Qt9 P (by simp[Qbj,wX,wL,wC]);have H:∀v∈pW p,(wX v).length<=4000000/\(wL v).length<=4000000/\(wC v).length<=7:=λv M=>by have:=P v M;omega
 have C:Y8 3000 (pM p):=L.mono (by omega);have E:=S k;have J:∀(y:Qxb) (a:Int),(wX y).length<=4000000/\(wL y).length<=4000000/\(wC y).length<=7->Q0p (pM p,(pW p).set k y,a)/\(mC (pM (pM p,(pW p).set k y,a))).length=(mC (pM p))/\(pW (pM p,(pW p).set k y,a)).length=(pW p):=λy a W=>⟨⟨C,B,by show(mX (pM p)).length<=_;rw[F];simp,by show((pW p).set k y).length<=4;rw[Bl];exact G,Qbw H W⟩,rfl,by show((pW p).set k y).length=_;rw[Bl]⟩;have X:Q0p p:=⟨C,B,by rw[F];simp,G,H⟩;unfold Yo;simp only;split
 ·refine⟨⟨?_, ?_, ?_,by show((pW p).set k _).length<=4;rw[Bl];exact G,Qbw H ?_⟩, ?_,by show((pW p).set k _).length=_;rw[Bl]⟩
  ·show Y8 3000 (Ja (pM p) (Q3 p k)).1
   unfold Ja;simp only;repeat' split
   ·exact C.release
   ·exact C.words (by simp)
   ·exact C.release
   exact C
  ·show(mC (Ja (pM p) (Q3 p k)).1).length<=1500
   unfold Ja;simp only;repeat' split
   ·rw[Za];exact B
   ·show(mC (Qa _ _ _)).length<=_;unfold Qa;rw[Q01];exact B
   ·rw[Za];exact B
   exact B
  ·show(mX (Ja (pM p) (Q3 p k)).1).length<=1000000
   have:mX (Ja (pM p) (Q3 p k)).1=mX (pM p):=by
    unfold Ja;simp only;repeat' split
    all_goals rfl
   rw[this,F];simp
  ·unfold Ja;simp only
   repeat' split
   all_goals simp only[wX,wL,wC,Bo,Br,Dp,Em]at E⊢
   all_goals omega
  show(mC (Ja (pM p) (Q3 p k)).1).length=_;unfold Ja;simp only;repeat' split
  ·rw[Za]
  ·show(mC (Qa _ _ _)).length=_;unfold Qa;rw[Q01]
  ·rw[Za]
  rfl
 split
 ·split
  ·have q1:=Qq8 bk (pM p) (Qu (mC (pM p)) (Yg (Q3 p k))) (Zi (mC (pM p)) (Yg (Q3 p k))).1 (Zi (mC (pM p)) (Yg (Q3 p k))).2
   have d:=Qqc bk (pM p) (Qu (mC (pM p)) (Yg (Q3 p k))) (Zi (mC (pM p)) (Yg (Q3 p k))).1 (Zi (mC (pM p)) (Yg (Q3 p k))).2;have T:=Qk7 bk (pM p) (Qu (mC (pM p)) (Yg (Q3 p k))) (Zi (mC (pM p)) (Yg (Q3 p k))).1 (Zi (mC (pM p)) (Yg (Q3 p k))).2;have Y:Y8 3000 (Yz bk (pM p) (Qu (mC (pM p)) (Yg (Q3 p k))) (Zi (mC (pM p)) (Yg (Q3 p k))).1 (Zi (mC (pM p)) (Yg (Q3 p k))).2).1:=Qmu (K:=1000) (by omega) (L.mono (by omega)) O;have f:=(L.get (Zi (mC (pM p)) (Yg (Q3 p k))).2).2;have g:(Y5 (Yc bk (aV (Q7 (mC (pM p)) (Zi (mC (pM p)) (Yg (Q3 p k))).1)))).length<=1000:=by
    unfold Yc;rw[Ab];rcases e:bk[(aV (Q7 (mC (pM p)) (Zi (mC (pM p)) (Yg (Q3 p k))).1)).toNat]? with _|n
    ·simp[Y5]
    have:=Q1s n n.length;have O:=U n (Ho e);rw[<-Q2i]at this;show(Y5 n).length<=_;omega
   rw[F]at q1;refine⟨⟨Y, ?_, ?_,by show((pW p).set k _).length<=4;rw[Bl];exact G,Qbw H ?_⟩, ?_,by show((pW p).set k _).length=_;rw[Bl]⟩
   ·show(mC (Yz bk _ _ _ _).1).length<=1500;rw[T];exact B
   ·show([]:List Wd).length<=_;simp
   ·show((wX (Q3 p k)).take _++mX (Yz bk _ _ _ _).1).length<=4000000/\(Yz bk _ _ _ _).2.length<=4000000/\((wC (Q3 p k)).set _ _).length<=7
    rw[Bo,Cf,Bl];simp only[Em]at q1;omega
   show(mC (Yz bk _ _ _ _).1).length=_;exact T
  exact⟨X,rfl,rfl⟩
 have b:=S (wV (Q3 p k)).toNat;repeat' split
 ·exact J _ _ (by simp only[Q6k,Yx,wX,wL,wC]at E⊢;omega)
 ·have c:∀v∈(pW p).set k (Yx (Yh (Q3 p k) [(wX (Qjd p k)).getD 0 (0,0)]) 1),(wX v).length<=4000000/\(wL v).length<=4000000/\(wC v).length<=7:=Qbw H (by simp only[Yh,Yx,wX,wL,wC,List.length_singleton]at E⊢;omega)
  refine⟨⟨C,B,by show(mX (pM p)).length<=_;rw[F];simp,by show(((pW p).set k _).set _ _).length<=4;rw[Bl,Bl];exact G,Qbw c ?_⟩,rfl,by show(((pW p).set k _).set _ _).length=_;rw[Bl,Bl]⟩;unfold Qjd;simp only[Yh,wX,wL,wC,Dp]at b⊢;omega
 ·exact J _ _ (by simp only[Yx,wX,wL,wC]at E⊢;omega)
 ·exact J _ _ (by simp only[Yx,wX,wL,wC]at E⊢;omega)
 ·exact J _ _ (by simp only[Yx,wX,wL,wC]at E⊢;omega)
 exact J _ _ (by simp only[Q6k,wX,wL,wC]at E⊢;omega)
def Qe9{w}(b o)(p:Ye)(h:At Qv w b o p)(B:Qyv Qv p<=100000000):Bv prog 92 #[(b,o)] w (Q2w Qv w p):=by
 obtain⟨⟨cs,f,⟨C,E⟩,xs⟩,F,G⟩:=p;exact Qnh w b o cs f C E xs F G h B
def Qs1(bk:List Qy0)(p:Ye)(k:Nat)(w:Bh)(e:Ending)(w':Bh):Prop:=∃vs,e=.returned (.tuple #[.agg vs.toArray,I Z (Yo bk p k).1])/\Qy7 Qv w w' vs (Yo bk p k).2/\(w,w')
def Qf9{p}(h:Q0y p):mC (pM p)≠ []/\pW p≠ []:=by
 obtain⟨B,-,-,-,C⟩:=Q1c h;have:=(Q5y C).1;exact⟨λe=>by rw[e]at this;simp at this,λe=>by rw[e]at B;simp at B⟩
def Qt2{w}(p0 V)(bk:List Qy0)(x:Rd (.slice Jl) w [A p0 bk V] bk)(AC:bk<=Bu)(y:∀n∈bk,Qbs n)(z:∀n∈bk,Yd n=true){b o}(p:Ye)(k:Nat)(h:At Qv w b o p)(hk:k<(pW p))(W:Q0y p)(hz:Qyv Qv p<=100000000):
  Bv prog 108 #[A p0 bk V,.pointer (R ⟨b,o,N⟩),k] w (Qs1 bk p k w):=by
 have HA:=qh h;have AD:=qh x;have AE:=qh y;have AF:=qh z;have AG:=qh W;have AH:=qh AC;have HZ:=qh hz;have K:=qh (Qf9 W);clear h x y z W hz;go_enter func108,ntmps108;go_upto_region 1 with fail
 refine Qp λF L=> ?_;have Y:=D (w,F) (by rw[L];go_grown);have AI:=D (F.heap[w.heap.size]?=R (Jf (A N 0 0) 0 0 0 (A N 0 0) (A N 0 0) 0)) (by rw[L];exact Bg w _);have A0:F.heap.size=w+1:=by rw[L];simp
 clear L;have a:=qh A0;clear A0;go_upto_region 2 with((go_at_call 92;(with_reducible refine(Qe9 b o p (HA.o.kb Y) HZ).mono ?_);rintro e w1 ⟨vs,rfl,d,E⟩;have A1:=qh d;have M:=qh E;obtain⟨P0,px,cx,rfl,-⟩:=d.poolShape K.o.1 K.o.2;clear d E))
 refine Qp λG O=> ?_;obtain⟨P,hP,A2⟩:∃P,Y2 G w1 0 p P/\∀b∈P.all,F<=b:=by rw[O];exact Y2.ofBox A1 K.o.1 K.o.2
 have f:=D (F,G) (by rw[O];exact M.o.alloc M.o.size _);have HP:=qh hP;have j:=qh A2;have A3:=M.o.size;have A4:w1.heap.size<G:=by rw[O];simp
 have H:=qh (And.intro A3 A4);clear O hP A2 A3 A4 A1 M;have AJ:=qh (AD.o.kb Y);have AK:=D (∀b∈w1.heap.size::P.all,F<=b) (λb E=>(Aq.1 E).elim (λe=>by rw[e];exact H.o.1) (j.o b));go_upto_region 3 with((go_at_call 154;(with_reducible refine(Quc F _ f.o p0 V bk AJ AH AE AF p P k HP AK hk AG).mono ?_);rintro e J ⟨kd,rfl,C,A5⟩;have l:=qh A5;clear A5))
 have m:=D (Q1 (λc=>F.heap.size<=c) G J) (l.o.fr.mono λc hc=>hc.elim (λe=>by rw[e];exact H.o.1) (j.o c));have q:J.heap[w.heap.size]?=R (Jf (A N 0 0) 0 0 0 (A N 0 0) (A N 0 0) 0):=by have h0:=a.o;have h1:=H.o;rw[m.o.block _ (by omega) (by omega),f.o.block _ (by omega)];exact AI.o
 have AL:=qh q;have A6:∀b∈C.all,F<=b:=λb E=>(l.o.fresh.2.2 b E).elim (j.o b) λh=>by have:=H.o;omega
 obtain⟨r,s,⟨q0,q1,q2,q3,q4,q5,q6⟩,F3,A7,A8,A9⟩:=l.o.pool.shut A6;obtain⟨⟨r0,r1,r2,r3,r4,r5,r6⟩,AQ⟩:=Q2z q;have AA:=qh A7;have AM:=qh A8;have T:=qh A9;simp only[Cg]at q1 q2 q3 q4 q5 q6;have AN:=Ac J _ q0;simp only at AN;clear q A7 A8 A9 A6;obtain⟨AO,t⟩:∃c,(Yo bk p k).1=c:=⟨_,rfl⟩;obtain⟨B,u⟩:∃c,(Yo bk p k).2=c:=⟨_,rfl⟩;rw[u]at q0 q1 q2 q3 q4 q5 q6 AA;have HC:=qh t;have AP:=qh u;rw[t];clear t u;go_wp2_with fail
 have AB:=Q68 AL (A (R (C.S.cb,C.S.o)) (mC (pM B)) C.S.cap) (A r (mX (pM B)) s) (A (R (C.wb,C.wo)) (pW B) C.wcap) (mF (pM B)) (mR (pM B)).1 (mR (pM B)).2 (pA B);have U:=Zx (X:=λc=>c=w.heap.size) (g:=w) rfl [A (R (C.S.cb,C.S.o)) (mC (pM B)) C.S.cap,(mF (pM B)),I Z (mR (pM B)).1,I Z (mR (pM B)).2,A r (mX (pM B)) s,A (R (C.wb,C.wo)) (pW B) C.wcap,(pA B)] 0 J;simp only[Yu,Cg,Bj]at AB U;obtain⟨⟨t0,t1,t2,t3,t4,t5,t6⟩,-⟩:=Q2z AB;refine bodyPost_ret (v:=.tuple #[.agg #[A (R (C.S.cb,C.S.o)) (mC (pM B)) C.S.cap,(mF (pM B)),I Z (mR (pM B)).1,I Z (mR (pM B)).2,A r (mX (pM B)) s,A (R (C.wb,C.wo)) (pW B) C.wcap,(pA B)],AO]) (by simp[results,results108,go_sem,t0,t1,t2,t3,t4,t5,t6]) rfl ?_;refine⟨_,by rw[HC.o], ?_, ?_⟩
 ·rw[AP.o]
  have h0:=a.o;exact⟨F3,AA.o.frame U (λb E=>⟨(T.o b E).2.1,λe=>by have:=(T.o b E).1;omega⟩),AM.o,λb E=>⟨by have:=(T.o b E).1;omega,Ap (T.o b E).2.1 U.size⟩⟩
 have h0:=a.o;have h1:=H.o;have b1:Below w w G:=Y.o.trans (f.o.mono (by omega));have b2:Below w G J:=m.o.below (by omega) (λi hi=>by omega);exact(b1.trans b2).trans (U.below (by have:=m.o.size;omega) (λi hi=>by omega))
end Go.Proofs.YtcjngpfigpglfaaGreatDoor
