import Derived.Test.YtcjngpfigpglfaaGreatDoorP21
set_option maxHeartbeats 0
set_option maxRecDepth 100000
set_option linter.all false
namespace Go.Proofs.YtcjngpfigpglfaaGreatDoor
open Go.RowKit Go.Proofs.Tryz
open Go.Value renaming int->I,slice->A
open Go.IntKind renaming i64->Z
open Option renaming none->N,some->R
open OC(oC)
open OR(oR)
open JN(jN)
open And renaming intro->Cj
open Bool renaming true->Bn,false->Bm,and_eq_false_iff->Hk,not_false->Hr,eq_iff_iff->Ev,and_eq_true->Bi
open Go renaming Calls->Bv,World->Bh,maxLen->Bu,bodyPost_ret->Ce,heap_alloc_new->Bg,info_parts->Ck,Value->Bk,Addr->Cp,madeCells->Ds
open Go.RowKit renaming Below->Bp,intOf->By
open Go.Value.slice renaming injEq->Ci
open Int renaming emod_nonneg->Fz,emod_lt_of_pos->Ez
open List renaming length_set->Bl,set_set->He,range->Bz,length->Ca,length_take->Cf,not_mem_nil->Cs,flatMap_cons->Cr,length_append->Bo,length_cons->Br,length_nil->Em
open Nat renaming zero_mul->Dm,add_zero->Cw,reduceAdd->Bj,zero_add->Cg
open Prod.mk renaming injEq->Fg
theorem Qms{w}(pb s p P)(k:Nat)(h:Y2 w pb s p P)(hk:k<(pW p))(hl:0<(wL (Q3 p k)).length)(E1:(wL (Q3 p k)).length<=1000000)(E2:(wX (Q3 p k)).length<=1000000)(g1:Zc (mC (pM p)) (Q32 (Q3 p k)).1=Bn)(g2:Zc (mC (pM p)) (Q32 (Q3 p k)).2=Bn):
  Bv prog 211 #[.pointer (R ⟨pb,s,N⟩),.pointer (R ⟨P.wb,P.wo+k * 5,N⟩)] w λe w'=>e=.returned (.tuple #[])/\∃P',Z4 w P pb s w' ((Ja (pM p) (Q3 p k)).1,(pW p).set k (Ja (pM p) (Q3 p k)).2,pA p) P':=by
 have HP:=qh h;obtain⟨pl,cl,Gl,c3,AO,B3,B4,CD,B5⟩:=h.focL hk;obtain⟨G,H,rfl,hE⟩:=Rd.elem AO.rd 0 hl;have CE:=qh AO;have E3:=qh B4;have CF:=qh B3;have CG:=qh B5;have E4:(wL (Q3 p k))<=cl:=(AO.flatBlk rfl hl).2.2.1;have AP:=D (Q32 (Q3 p k)=(wL (Q3 p k))[0]) (by unfold Q32;rw[Ab,Ad hl];rfl);have CH:=qh (Qgf (f:=λx=>Zc (mC (pM p)) x=Bn) g1 g2);have HG:=D ((Zc (mC (pM p)) (Q32 (Q3 p k)).1=Bn/\Zc (mC (pM p)) (Q32 (Q3 p k)).2=Bn)) (⟨g1,g2⟩);clear g1 g2 AO B4 CD B3 B5;have B6:=AP.o;generalize (wL (Q3 p k))[0]=l0 at *
 obtain⟨⟨U,g⟩,⟨O,l⟩⟩:=l0;obtain⟨⟨e0,e1,e2,e3⟩,i0,i1,i2,i3⟩:=hE.link;simp only[Dm,Cw]at e0 e1 e2 e3;have HI:=D ((Qyn U/\Qyn g)/\(Qyn O/\Qyn l)) (⟨⟨i0,i1⟩,i2,i3⟩);have E5:=i1.bd;have E6:=i3.bd;have E7:(0:Int)<(wL (Q3 p k)):=by omega
 have CI:=h.mem.blk.lt;have CJ:=Ac w _ c3;have CK:=Ac w _ e0;simp only at CJ CK;rw[B6]at HG;have HT:=D ((U=1\/U=2)/\(O=1\/O=2)) (by have h1:=(Jo HG.o.1).2;have h2:=(Jo HG.o.2).2;simp only at h1 h2;omega);clear hE i0 i1 i2 i3 h B6;go_enter func211,ntmps211;go_upto_region 1 with fail
 go_cut [5,6] (λx y wx=>∃(V by_:Nat),x=.pointer (R ⟨V,0,N⟩)/\y=.pointer (R ⟨by_,0,N⟩)/\V≠by_/\(w<=V/\w<=by_)/\wx.heap[V]?=R (.cells #[I Z U,I Z g] 40 (0,0))/\wx.heap[by_]?=R (.cells #[I Z O,I Z l] 40 (0,0))/\(w,wx))
 case first=>
  have HK:=D (∀W,Bp w w W->(W,P.wb,P.wo+k * 5+3,A (R ⟨G,H,N⟩) (wL (Q3 p k)) cl)/\(W,G,H,I Z U)/\(W,G,H+1,I Z g)/\(W,G,H+2,I Z O)/\(W,G,H+3,I Z l)) (λW M=>Qde M c3 e0 e1 e2 e3)
  go_region_held3(λW=>(W,P.wb,P.wo+k * 5+3,A (R ⟨G,H,N⟩) (wL (Q3 p k)) cl)/\(W,G,H,I Z U)/\(W,G,H+1,I Z g)/\(W,G,H+2,I Z O)/\(W,G,H+3,I Z l))
   (((refine HK.o _ ?_);go_grown)) (first|fail)
  all_goals(go_wp2_with fail;go_meet)
  ·exact⟨_,_,rfl,rfl,by omega,⟨by omega,by omega⟩,(Jt w _ _ _ _).1,(Jt w _ _ _ _).2,by go_grown⟩
  exact⟨_,_,rfl,rfl,by omega,⟨by omega,by omega⟩,(Jt w _ _ _ _).2,(Jt w _ _ _ _).1,by go_grown⟩
 case rest=>
 obtain⟨V,by_,rfl,rfl,B7,⟨B8,B9⟩,hx,hy,M⟩:=hcut;rename Bh=>W1
 have AQ:=qh M;have A9:=qh hx;have AA:=qh hy;obtain⟨⟨x0,x1⟩,xf⟩:=Zj A9;obtain⟨⟨y0,y1⟩,yf⟩:=Zj AA;clear hx hy M e0 e1 e2 e3;go_upto_region 2 with fail
 go_cut [38] (λq wx=>q=.bool (O==2 && (U !=2||decide (g<l)))/\W1=wx)
 case first=>
  have CL:(O=1)\/(O=2/\U=1)\/(O=2/\U=2/\g<l)\/(O=2/\U=2/\l<=g):=by have:=HT.o;omega
  rcases CL with rfl|⟨rfl,rfl⟩|⟨rfl,rfl,hlt⟩|⟨rfl,rfl,hge⟩
  all_goals
   go_wp2_with fail
   go_meet;refine⟨?_,rfl⟩;first|(simp;done)|(simp;omega)
 obtain⟨rfl,rfl⟩:=hcut;obtain⟨q,hq⟩:∃q:Bool,q=(O==2 && (U !=2||decide (g<l))):=⟨_,rfl⟩;have HQ:=D (Q2f ((U,g),(O,l))=if q then((O,l),(U,g))else((U,g),(O,l))) (by rw[hq];rfl);rw[<-hq];clear hq;go_upto_if 38 with(fail)
 have CM:=(Al.1 A9).1;have CN:=(Al.1 AA).1;cases q;case' true=>
  go_upto_region 4 with fail
  refine Qp λW2 AD=> ?_;obtain⟨A1,B,E,C,AB,L,AE,AF,AG⟩:∃A1 B E C:Int,Hd (Q2f (Q32 (Q3 p k))=((A1,B),(E,C)))/\Hd ((Qyn A1/\Qyn B)/\(Qyn E/\Qyn C))/\Hd (W2.heap[V]?=R (.cells #[I Z A1,I Z B] 40 (0,0)))/\Hd (W2.heap[by_]?=R (.cells #[I Z E,I Z C] 40 (0,0)))/\Hd (w,W2):=by rw[AD];exact⟨O,l,U,g,qh (by rw[AP.o,HQ.o];rfl),qh ⟨HI.o.2,HI.o.1⟩,qh (Qtg A9 AA B7).1,qh (Qtg A9 AA B7).2,qh ((((AQ.o.setCell B8 _).setCell B8 _).setCell B9 _).setCell B9 _)⟩
  clear AD
 case' false=>
  go_upto_region 4 with fail
  refine Qp λW2 AD=> ?_;obtain⟨A1,B,E,C,AB,L,AE,AF,AG⟩:∃A1 B E C:Int,Hd (Q2f (Q32 (Q3 p k))=((A1,B),(E,C)))/\Hd ((Qyn A1/\Qyn B)/\(Qyn E/\Qyn C))/\Hd (W2.heap[V]?=R (.cells #[I Z A1,I Z B] 40 (0,0)))/\Hd (W2.heap[by_]?=R (.cells #[I Z E,I Z C] 40 (0,0)))/\Hd (w,W2):=by rw[AD];exact⟨U,g,O,l,qh (by rw[AP.o,HQ.o];rfl),HI,A9,AA,AQ⟩
  clear AD
 all_goals
  clear HQ x0 x1 xf y0 y1 yf A9 AA AQ CM CN;obtain⟨⟨x0,x1⟩,xf⟩:=Zj AE;obtain⟨⟨y0,y1⟩,yf⟩:=Zj AF;have E8:=AG.o.size;have BA:=(Al.1 AE).1;have BB:=(Al.1 AF).1;have A5:=qh ((Z4.start HP).below AG);have BC:=Jo (w:=(A1,B)) (by have:=CH.o.1;rw[AB.o]at this;exact this);simp only at BC;obtain⟨⟨BD,BE⟩,CO⟩:=BC;have E9:=L.o.1.2.bd;have EA:=L.o.2.2.bd;have CP:(A1=1)\/(A1=2/\E=2/\B=C)\/(A1=2/\¬(E=2/\B=C)/\(Q2n (pM p) B).length=0)\/(A1=2/\¬(E=2/\B=C)/\0<(Q2n (pM p) B).length):=by omega
  have AH:=qh CI;clear CO;rcases CP with rfl|⟨rfl,rfl,rfl⟩|⟨rfl,hn,hw0⟩|⟨rfl,hn,hw0⟩;case' inr.inl=>have hq:=λw=>Q3a L.o.1.1 L.o.1.2 L.o.1.1 L.o.1.2 w;simp only[beq_self_eq_true,Bool.and_self,Bool.not_true]at hq
  case' inr.inr.inl=>
   have hq:=λw=>Q3a L.o.1.1 L.o.1.2 L.o.2.1 L.o.2.2 w;have A6:(2==E && B==C)=Bm:=by simp only[Hk,beq_eq_false_iff_ne];omega
   have AR:=qh A6;simp only[A6,Hr]at hq;have AS:=qh hw0;obtain⟨EB,EC,-,-,f4,-⟩:=A5.o.pool.mem.focusW (i:=B) (by omega);have AI:(aW (Q7 (mC (pM p)) B)).length=0:=hw0;rw[AI]at f4;obtain⟨_,_,m0,-,-,-,-,-,-,-,-⟩:=A5.o.pool.mem.head;have AJ:=A5.o.pool.mem.cells.bound;unfold Bu at AJ;obtain⟨CQ,CR⟩:=AJ;clear hn hw0 AI A6
  case' inr.inr.inr=>
   have hq:=λw=>Q3a L.o.1.1 L.o.1.2 L.o.2.1 L.o.2.2 w;have A6:(2==E && B==C)=Bm:=by simp only[Hk,beq_eq_false_iff_ne];omega
   have AR:=qh A6;simp only[A6,Hr]at hq;have AS:=qh hw0;obtain⟨pw,cw,Gd,Gw,f4,AC,-,-,-⟩:=A5.o.pool.mem.focusW (i:=B) (by omega);have AI:0<(aW (Q7 (mC (pM p)) B)).length:=hw0;obtain⟨bw,ow,rfl,BF⟩:=Rd.elem AC.rd 0 AI;have HZ:=D ((Q2n (pM p) B).getD 0 (0,0)=((aW (Q7 (mC (pM p)) B))[0].1,(aW (Q7 (mC (pM p)) B))[0].2)) (by unfold Q2n;rw[Ab,Ad AI];rfl);obtain⟨z0,z1,BG,BH⟩:=At.word (t:=(aW (Q7 (mC (pM p)) B))[0].1) (a:=(aW (Q7 (mC (pM p)) B))[0].2) BF;simp only[Ty.sz,Bj,Dm,Cw]at z0 z1;generalize (aW (Q7 (mC (pM p)) B))[0].1=zt at *
   generalize (aW (Q7 (mC (pM p)) B))[0].2=za at *
   have BI:=qh (Cj BG BH);obtain⟨_,_,m0,-,-,-,-,-,-,-,-⟩:=A5.o.pool.mem.head;have AJ:=A5.o.pool.mem.cells.bound;unfold Bu at AJ;obtain⟨CQ,CR⟩:=AJ;have ED:(0:Int)<(aW (Q7 (mC (pM p)) B)):=by omega
   clear hn hw0 A6 AC BF BG BH
  all_goals
   go_quiet(fail)
   refine Qp λJ BJ=> ?_;have m:Bp W2 W2 J:=by rw[BJ];exact Q8 (Ai _ _) _
   have A0:=D (w,J) (Q0 AG m);have Y:=D (Z4 w P pb s J p P) (A5.o.below m);have CS:=qh ((m.block V BA).trans AE);have CT:=qh ((m.block by_ BB).trans AF);have AT:W2.heap.size<=J:=m.size;clear BJ x0 x1 xf y0 y1 yf AE AF AG;obtain⟨⟨x0,x1⟩,xf⟩:=Zj CS;obtain⟨⟨y0,y1⟩,yf⟩:=Zj CT;have BA:V<J:=by omega
   have BB:by_<J:=by omega
  case' inr.inr.inr=>
   have f4:=jC m f4;have z0:=jC m z0;have z1:=jC m z1;have m0:=jC m m0;have CU:=jC A0 c3;have A7:=D (Ja (pM p) (Q3 p k)=(Qd (pM p) B,(wP (Q3 p k),wV (Q3 p k),wX (Q3 p k),((Q2n (pM p) B).getD 0 (0,0),(E,C))::(wL (Q3 p k)).drop 1,wC (Q3 p k)))) (by have AU:(((2:Int),B)==(E,C))=Bm:=AR.o;unfold Ja;rw[AB.o];simp only[AU];rw[if_pos (by rfl),if_pos AS.o]);have CV:=qh (CE.o.focus CF 0 hl);obtain⟨b',o',us,Gz,BK,CW,CX,-,-,-,CY,BL,BM,BN,BO⟩:=CV.o;have CZ:=qh (Va (t:=Z7) rfl BN);have D0:=qh CW;simp only[Option.some.injEq,Addr.mk.injEq,and_true]at BK;obtain⟨rfl,rfl⟩:=BK;have EE:=λq=>((Ay (X:=λ_=>False) A0).frozen CX (λh=>h) q).trans (BM q);obtain⟨u0,u1,u2,u3,rfl⟩:=Qnj CY;obtain⟨q0,q1,q2,q3⟩:=Qqr BL;have q0:=jC A0 q0;have q1:=jC A0 q1;have q2:=jC A0 q2;have q3:=jC A0 q3;simp only[Dm,Cw]at q0 q1 q2 q3;have D1:=qh BO;clear BM BN BL BO m;go_wp2_with fail
   go_still_tail 18,(by kernel_rfl)
   go_upto_region 6 with fail
   refine Qp λW4 z=> ?_;have BP:=D (∃P',Z4 w P pb s W4 (Q08 p k (Q9s (Q3 p k) (((zt,za),(E,C))::(wL (Q3 p k)).drop 1))) P') (by
    rw[z];have D2:Q1 (λc=>c=G) J ((((J.setCell ⟨G,H,N⟩ (I Z zt)).setCell ⟨G,H+1,N⟩ (I Z za)).setCell ⟨G,H+2,N⟩ (I Z E)).setCell ⟨G,H+3,N⟩ (I Z C)):=Q6t (X:=λc=>c=G) (Q1.refl _ _) rfl _ _ _ _;have BQ:Q1 (λc=>c=G) w (((((J.setCell ⟨G,H,N⟩ (I Z zt)).setCell ⟨G,H+1,N⟩ (I Z za)).setCell ⟨G,H+2,N⟩ (I Z E)).setCell ⟨G,H+3,N⟩ (I Z C)).drew):=((Ay A0).trans D2).drew
    have D3:Qc G H 4 w (((((J.setCell ⟨G,H,N⟩ (I Z zt)).setCell ⟨G,H+1,N⟩ (I Z za)).setCell ⟨G,H+2,N⟩ (I Z E)).setCell ⟨G,H+3,N⟩ (I Z C)).drew):=
     ((((((Qc.refl G H 4 w).fr (Ay (X:=λ_=>False) A0) (λh=>h)).set H (by omega) _).set (H+1) (by omega) _).set (H+2) (by omega) _).set (H+3) (by omega) _).drew
    have D4:Qy2 (((((J.setCell ⟨G,H,N⟩ (I Z zt)).setCell ⟨G,H+1,N⟩ (I Z za)).setCell ⟨G,H+2,N⟩ (I Z E)).setCell ⟨G,H+3,N⟩ (I Z C)).drew) G H [I Z zt,I Z za,I Z E,I Z C]:=λj hj=>Qld q0 q1 q2 q3 (I Z zt) (I Z za) (I Z E) (I Z C) j hj;have ho:=D1.o _ [I Z zt,I Z za,I Z E,I Z C] ((zt,za),(E,C)) (BQ.mono λc hc=> .inl hc) (by simp only[Dm,Cw];exact D3) (by simp only[Dm,Cw];exact D4) (by rw[CZ.o];exact Ow.link BI.o.1 BI.o.2 L.o.2.1 L.o.2.2);have:=CG.o _ ((wL (Q3 p k)).set 0 ((zt,za),(E,C))) (BQ.mono λc hc=>hc▸D0.o) ho;rw[show(wL (Q3 p k)).set 0 ((zt,za),(E,C))=((zt,za),(E,C))::(wL (Q3 p k)).drop 1 from by
     have:0<(wL (Q3 p k)).length:=hl;match wL (Q3 p k),this with
     |x::r,_=>rfl]at this
    exact this)
   obtain⟨d,AV⟩:=BP.o;have BR:=qh AV;have D5:=D (Zh W4 pb s (pM p) d.S) (AV.pool.mem);have x1:=(show W4.cell? ⟨V,1,N⟩=R (I Z B)by rw[z];exact Qo (X:=λc=>c=G) (Q1.drew (Q6t (X:=λc=>c=G) (Q1.refl _ _) rfl _ _ _ _)) x1 (λe=>by omega));clear z AV BP q0 q1 q2 q3 z0 z1 y0 y1 f4 CU x0;go_wp2_with((go_at_call 233;(with_reducible refine(Q99 _ _ _ _ _ D5 B BD BE).mono ?_);rintro e W5 ⟨rfl,hm,n,AK⟩;have D6:=qh hm;have D7:=qh n;have D8:=qh AK;clear hm n AK))
   refine Ce (v:=.tuple #[]) (by simp[results,results211,go_sem]) rfl ⟨rfl, ?_⟩;have h5:=BR.o.pool.stM D6 (D7.o.mono λc hc=>hc.imp id Q20) D8 (λb M=>(Y0 M).elim (λh=>by simp at h) .inl);rw[A7.o,HZ.o];exact⟨_,BR.o.trans AH h5⟩
  focus
   have m0:=jC m m0;have f4:=jC m f4;have A7:=D (Ja (pM p) (Q3 p k)=(Qa (pM p) B [(E,C)],(wP (Q3 p k),wV (Q3 p k),wX (Q3 p k),(wL (Q3 p k)).drop 1,wC (Q3 p k)))) (by have AU:(((2:Int),B)==(E,C))=Bm:=AR.o;simp[Ja,AB.o,AU,AS.o]);obtain⟨pw,cw,Gd,Gw,D9,AC,DA,BS,BT⟩:=Y.o.pool.mem.focusW (i:=B) (by omega);have DB:=qh BT;have DC:=qh BS;have EF:=λq=>Y.o.pool.mem.cells.blk.free q;have DD:=Y.o.pool.mem.cells.blk.lt;have EG:=Y.o.pool.mem.blk.lt;have BU:=Y.o.pool.mem.ne;have EH:P.S.cb<w:=HP.o.lt _ (Aa _ (Ag _ Ae));have DE:=D (∀W,Q1 (λc=>c=P.S.cb) J W->(W,pb,s,A (R ⟨P.S.cb,P.S.o,N⟩) (mC (pM p)) P.S.cap)/\(W,V,1,I Z B)/\(W,by_,0,I Z E)/\(W,by_,1,I Z C)) (λW n=>⟨Qo n m0 BU.1,Qo n x1 (λe=>by omega),Qo n y0 (λe=>by omega),Qo n y1 (λe=>by omega)⟩);clear AC DA BS BT D9 m;go_upto_region 9 with fail
   go_region_held3(λW=>(W,pb,s,A (R ⟨P.S.cb,P.S.o,N⟩) (mC (pM p)) P.S.cap)/\(W,V,1,I Z B)/\(W,by_,0,I Z E)/\(W,by_,1,I Z C))
    (((with_reducible refine DE.o _ ?_);(repeat(first|with_reducible exact Q1.refl _ _|with_reducible apply Q1.drew|with_reducible apply Q1.alloc|with_reducible refine Qtt ?_)))) (first|fail)
   go_upto_region 12 with fail
   refine Qp λW4 z=> ?_;obtain⟨K,d,A3,AW,AX,AY⟩:∃(K:Ye) (d:PS),Hd (Z4 w P pb s W4 K d)/\Hd (wL (Q3 K k)=wL (Q3 p k))/\Hd (k<(pW K))/\Hd (((Ja (pM p) (Q3 p k)).1,(pW p).set k (Ja (pM p) (Q3 p k)).2,pA p)=Q08 K k (Q9s (Q3 K k) ((wL (Q3 p k)).drop 1))):=by rw[z,<-World.setCell_alloc_past _ _ _ _ DD];have AC:=Q5k (Bg J _) L.o.2.1 L.o.2.2 (T:=40);have hm:=DB.o (J.alloc (.cells #[I Z E,I Z C] 40)) (R ⟨J,0,N⟩) 1 1 [(E,C)] [J.heap.size] ((Q1.refl _ _).alloc _) AC rfl (by simp) (λb M=> .inr λhm=>by have:=Y.o.pool.mem.lt b hm;rw[Bb.1 M]at this;omega);have hF:Q1 (λc=>c=P.S.cb) J ((J.alloc (.cells #[I Z E,I Z C] 40)).setCell ⟨P.S.cb,P.S.o+B.toNat * 5+4,N⟩ (A (R ⟨J,0,N⟩) 1 1)):=Qtt ((Q1.refl _ _).alloc _);exact⟨(Qa (pM p) B [(E,C)],pW p,pA p),_,qh (Y.o.trans AH (Y.o.pool.stM hm.drew (hF.mono λc hc=> .inr (Q20 hc)).drew (Qc.of_frame hF BU.1 _ _).drew (λb M=>(Y0 M).elim (λh=>(At0.1 h).elim (λh=> .inl (DC.o b (Ag _ h)).1) λh=> .inr (by rw[Bb.1 h];omega)) .inl))),qh rfl,qh hk,qh (by rw[A7.o];rfl)⟩
   clear z
  rotate_left
  focus
   have A7:=D (Ja (pM p) (Q3 p k)=(Qd (pM p) B,(wP (Q3 p k),wV (Q3 p k),wX (Q3 p k),(wL (Q3 p k)).drop 1,wC (Q3 p k)))) (by simp[Ja,AB.o]);go_upto_region 12 with((go_at_call 233;(with_reducible refine(Q99 _ _ _ _ _ Y.o.pool.mem B BD BE).mono ?_);rintro e EI ⟨rfl,hm,n,AK⟩;have DF:=qh hm;have A8:=qh n;have DG:=qh AK;clear hm n AK))
   refine Qp λW4 z=> ?_;obtain⟨K,d,A3,AW,AX,AY⟩:∃(K:Ye) (d:PS),Hd (Z4 w P pb s W4 K d)/\Hd (wL (Q3 K k)=wL (Q3 p k))/\Hd (k<(pW K))/\Hd (((Ja (pM p) (Q3 p k)).1,(pW p).set k (Ja (pM p) (Q3 p k)).2,pA p)=Q08 K k (Q9s (Q3 K k) ((wL (Q3 p k)).drop 1))):=by rw[z];exact⟨(Qd (pM p) B,pW p,pA p),_,qh (Y.o.trans AH (Y.o.pool.stM DF (A8.o.mono λc hc=>hc.imp id Q20) DG (λb M=>(Y0 M).elim (λh=>by simp at h) .inl))),qh rfl,qh hk,qh (by rw[A7.o];rfl)⟩
   clear z
  rotate_left
  focus
   obtain⟨pr,cr,Gr,r2,BV,BW,AL,BX⟩:=Y.o.pool.focR hk;have BY:=qh BV;have DH:=qh BW;have EJ:=qh AL;have DI:=qh BX;have BZ:=D (Qyn (min B C)/\Qyn (max B C)) (by unfold Qyn;omega);have C0:¬P.wb∈Gr:=λe=>(AL _ e).2.2.1 rfl;have AZ:=HP.o.lt;have C1:¬V∈Gr:=λe=>by have:=AZ _ (Aa _ (AL _ e).1);omega
   have C2:¬by_∈Gr:=λe=>by have:=AZ _ (Aa _ (AL _ e).1);omega
   have C3:=D (∀W,Q1 (λc=>c∈Gr\/c=P.wb) J W->(W,V,1,I Z B)/\(W,by_,1,I Z C)) (λW n=>⟨Qo n x1 (λe=>e.elim C1 λe=>by omega),Qo n y1 (λe=>e.elim C2 λe=>by omega)⟩);have DJ:=λq=>Y.o.pool.wks.blk.free q;have DK:=Y.o.pool.wks.blk.lt;have B0:=qh (Cj C0 DK);have A7:=D (Ja (pM p) (Q3 p k)=(pM p,(wP (Q3 p k),wV (Q3 p k),wX (Q3 p k)++ [(min B C,max B C)],(wL (Q3 p k)).drop 1,wC (Q3 p k)))) (by unfold Ja;rw[AB.o];rfl);obtain⟨i0,DL,DM,DN,DO⟩:=Ck Jj;clear BV BW AL BX AZ C1 C2 C0;go_upto_region 7 with fail
   have EK:=Q7a;rw[<-Q7a _ (.tmp 87)]
   go_region_held3(λW=>(W,V,1,I Z B)/\(W,by_,1,I Z C))
    (first|(with_reducible first|exact C3.o _ (A8.o.mono λ_ h=> .inl h)|exact C3.o _ (V1 (A8.o.mono λ_ h=> .inl h) (.inr rfl) _))|(refine Qum (w:=J) ?_ x1 y1;go_grown))
    ((refine Yk _ rfl (.tmp 88) (.tmp 100) 41 rfl (e:=Q5) 143 i0 _ 16 underlying41 DL DM DN DO rfl (by decide) (v:=A pr (wX (Q3 p k)) cr) (xs:=wX (Q3 p k)) (y:=(min B C,max B C)) (vs:=[I Z (min B C),I Z (max B C)]) (F:=Gr) J 1 rfl rfl (BY.o.kept λb M=>Az _ _ _ (BY.o.lt b M)) DH (Ow.word BZ.o.1 BZ.o.2) (Q76 (Q6 (Bg J.drew _) rfl) (Q6 (Bg J.drew _) rfl)) Qni (by omega) ?_;intro p3 DP w3 F3 C4 C5 AT C6;have DQ:=qh C4;have DR:=qh C5;have DS:=qh AT;have A8:=qh (Q1.trans (show Q1 (λc=>c∈Gr) J _ from((Q1.refl _ J).alloc _).drew) C6);have EL:=λq=>(A8.o.frozen B0.o.2 B0.o.1 q).trans (DJ q);have EM:=Qo A8 r2 B0.o.1;clear C4 C5 AT C6))
   all_goals
    go_upto_region 12 with fail
    refine Qp λW4 z=> ?_;obtain⟨K,d,A3,AW,AX,AY⟩:∃(K:Ye) (d:PS),Hd (Z4 w P pb s W4 K d)/\Hd (wL (Q3 K k)=wL (Q3 p k))/\Hd (k<(pW K))/\Hd (((Ja (pM p) (Q3 p k)).1,(pW p).set k (Ja (pM p) (Q3 p k)).2,pA p)=Q08 K k (Q9s (Q3 K k) ((wL (Q3 p k)).drop 1))):=by rw[z];obtain⟨d,h4⟩:=DI.o w3 p3 _ DP _ F3 A8 DQ DR (λb M=>(DS.o b M).imp id λe=>by rw[e];simp);exact⟨_,d,qh (Y.o.trans AH h4),qh (by rw[Q27 hk,if_pos rfl];rfl),qh (by show k<((pW p).set k _);rw[Bl];exact hk),qh (by rw[A7.o,Q27 hk,if_pos rfl];show _=Q08 (Q08 p k _) k _;unfold Q08;simp only[pM,pW,pA,He];rfl)⟩
    clear z
  all_goals
   obtain⟨EN,A4,DT,d3,AM,C7,DU,C8,-⟩:=A3.o.pool.focL AX;rw[AW.o]at d3 AM;have AN:d.wb=P.wb/\d.wo=P.wo:=⟨A3.o.fresh.1,A3.o.fresh.2.1⟩;obtain⟨C9,CA,rfl,-⟩:=Rd.elem AM.rd 0 hl;have EO:=(AM.flatBlk rfl hl).2.2.1;have DV:=qh (AM.rest rfl hl);have DW:=qh C8;have DX:=qh C7;have DY:=λq=>A3.o.pool.wks.blk.free q;have DZ:=A3.o.pool.wks.blk.lt;rw[AN.1]at DY DZ;rw[AN.1,AN.2]at d3;have CB:=qh AN;have EP:1<=(wL (Q3 p k)).length:=hl;have EQ:(1:Int)<=(wL (Q3 p k)):=by omega
   have ER:(1:Int)<=A4:=by omega
   clear AM C8 DU AN C7;have CC:=D (∀u:Bk,u=(if 1=A4 then A (R ⟨C9,CA,N⟩) 0 0 else A (R ⟨C9,CA+4,N⟩) ((wL (Q3 p k)).length-1) (A4-1))->∃P',Z4 w P pb s (W4.setCell ⟨P.wb,P.wo+k * 5+3,N⟩ u) ((Ja (pM p) (Q3 p k)).1,(pW p).set k (Ja (pM p) (Q3 p k)).2,pA p) P') (λu hu=>by
    obtain⟨q5,n5,c5,e5⟩:∃(q5:Option Cp) (n5 c5:Nat),u=A q5 n5 c5:=by
     by_cases e:1=A4
     ·rw[if_pos e]at hu;exact⟨_,_,_,hu⟩
     rw[if_neg e]at hu;exact⟨_,_,_,hu⟩
    have hr:=DV.o;rw[show Z7.sz=4 from rfl,<-hu,e5]at hr;obtain⟨P5,h5⟩:=DW.o W4 q5 n5 c5 _ DT (Q1.refl _ _) hr DX (λb M=> .inl M);rw[CB.o.1,CB.o.2]at h5;rw[AY.o,e5];exact⟨P5,A3.o.trans AH h5⟩)
   by_cases e1:1=A4
   ·subst e1
    have E0:(wL (Q3 p k)).length=1:=by omega
    go_wp2_with fail
    go_end0
    exact⟨rfl,CC.o _ (by simp[E0])⟩
   have ES:(1:Int)<A4:=by omega
   have ET:(A4:Int)≠1:=by omega
   have EU:¬A4=1:=by omega
   go_wp2_with fail
   go_end0
   exact⟨rfl,CC.o _ (by simp[e1])⟩
def Qq1{w}(b o)(m:Qyb)(B:List Qxb)(E a C:Int)(h:At Qv w b o (m,B,E))(H:1<=B.length)(J:B.length<=4)(K:0<=a)(L:a<B):
  Bv prog 214 #[(b,o),a,C] w λe w'=>e=.returned (Q0r B a C)/\w=w':=by
 obtain⟨-,M,O,⟨P,-⟩,-,-⟩:=h.pool;clear h;have F:¬((B:Int)=0):=by omega
 have S:((B:Int)==0)=Bm:=by rw[beq_eq_false_iff_ne];exact F
 have T:=Fz (a+1) (b:=(B:Int)) (by omega);have U:=Ez (a+1) (b:=(B:Int)) (by omega);have V:=Fz ((a+1)%(B:Int)+1) (b:=(B:Int)) (by omega);have W:=Ez ((a+1)%(B:Int)+1) (b:=(B:Int)) (by omega);cases q:((a+1)%(B:Int)==C)
 all_goals
  have G:=qh q;go_enter func214,ntmps214;go_wp2;go_ret;exact⟨Qt (by simp only[Q0r,G.o];rfl),rfl⟩
def Qom{w}(pb C B)(E:Nat)(a F)(G:w.cell? (pb,C+6)=R (I Z a))(H:w.cell? (B,E)=R (I Z F))(L:∀q,w.frozen? ⟨pb,q,N⟩=Bm)(M:∀q,w.frozen? ⟨B,q,N⟩=Bm)(O: -10<=a/\a<=10)(P:pb≠B):
  Bv prog 213 #[(pb,C),(B,E)] w λe w'=>e=.returned (.tuple #[])/\w'=(w.setCell (pb,C+6) (I Z (a-1))).setCell (B,E) (I Z 2):=by
 have J:=Ac w _ G;have K:=Ac w _ H;simp only at J K;go_enter func213,ntmps213;go_wp2_with fail
 go_end0
 exact⟨rfl,rfl⟩
def Que{w b o}(p:Ye)(h:At Qv w b o p)(X:(pW p).length<=1000000):
  Bv prog 134 #[(b,o)] w λe w'=>∃v,e=.returned v/\Qxu .int 2 w w' v (Q2x p)/\(w,w'):=by
 obtain⟨P,M⟩:∃P,P=p:=⟨_,rfl⟩;obtain⟨m,C,ac⟩:=p;obtain⟨-,AA,AB,⟨c0,-⟩,-,⟨hc,hm,Y⟩⟩:=h.pool;have a:=D (pW P=C) (by rw[M];rfl);have X:C.length<=1000000:=X;rw[<-M];have HC:=qh Y;have A0:=Ac w _ c0;simp only at A0;clear Y h M hm;obtain⟨i0,A1,A2,A3,A4⟩:=Ck Q2v;go_enter func134,ntmps134;go_wp2_with fail
 have c:=qh (Qxu.nil (t:=.int) (e:=2) (B:=w) (w:=w));go_loopw [3,11] (λu i wr=>∃(j:Nat),j<=C/\i=I Z j/\Hd (Qxu .int 2 w wr u (((Bz j).filter λ(k:Nat)=>wP (Q3 P k) !=4).map (λ(k:Nat)=>(k:Int))))/\Hd (w,wr)) (λ_ i _=>C.length-(By i).toNat);case atStart=>exact⟨0,Ak _,rfl,c.o,Ai _ _⟩
 obtain⟨j,hj,rfl,E,F⟩:=hrel;clear c;by_cases d:j<C
 ·obtain⟨b1,o1,rfl,O⟩:=Rd.elem (HC.o.kb F) j d
  generalize hx:C[j]=x at O;obtain⟨G,vi,xs,ls,cs⟩:=x;have f:=D (wP (Q3 P j)=G) (by simp only[Q3,a.o,List.getD_eq_getElem?_getD,List.getElem?_eq_getElem d,hx];rfl);clear hx;obtain⟨px,cx,pl,cl,pc,cc,⟨S,g,l,n,q⟩,-,-,-,-⟩:=O.worker;simp only[Ty.sz,Bj]at S g l n q;clear O;obtain⟨L,J⟩:∃L:List Int,L=((Bz j).filter λ(k:Nat)=>wP (Q3 P k) !=4).map (λ(k:Nat)=>(k:Int)):=⟨_,rfl⟩;rw[<-J]at E;have r:=qh J;have A5:=D (L<=j) (by rw[J,List.length_map];have:=List.length_filter_le (λ(k:Nat)=>wP (Q3 P k) !=4) (Bz j);rw[List.length_range]at this;exact this);clear J;obtain⟨pu,cu,rfl,AC,AD⟩:=E.o.form;have A6:w.heap.size<=wr:=F.o.size;have A7:=Ac wr _ S;simp only at A7;go_upto_region 5 with fail
  refine Qp λT U=> ?_;have H:=D (wr,T) (by rw[U];go_grown);obtain⟨g0,g1,g2,g3,g4⟩:=Q11 wr G vi (A px xs cx) (A pl ls cl) (A pc cs cc) 116;rw[<-U]at g0 g1 g2 g3 g4;clear U S g l n q;have AE:w.heap.size<=T:=Au A6 H.o.size;have HJ:=D (Qyn (j:Int)) (by unfold Qyn;omega);by_cases K:G=4
  ·have V:(G !=4)=Bm:=by simp[K]
   have W:=qh V;clear K;go_wp2
   go_roundw;case rel=>exact⟨j+1,by omega,by go_num,(E.o.kept H).eqL (by rw[Q8i,f.o,W.o,r.o];simp),(show Bp _ _ _ from Q0 F H)⟩
   simp[By];omega
  have V:(G !=4)=Bn:=by simp[K]
  have W:=qh V;clear K;go_wp2_with(at_builtin;refine Q0w T rfl (.tmp 19) (.tmp 21) 34 rfl (t:=.int) rfl (by decide) w 2 i0 _ 8 underlying34 A1 A2 A3 A4 rfl (by decide) (v:=A pu L cu) (xs:=L) (j:Int) _ rfl rfl (E.o.kept H) HJ rfl (by have:=A5.o;omega) (by omega) ?_;intro v9 w9 s y _;have A8:=qh s;have A9:=qh y;clear s y)
  go_roundw;case rel=>exact⟨j+1,by omega,by go_num,A8.o.eqL (by rw[Q8i,f.o,W.o,r.o];rfl),(show Bp _ _ _ from(Q0 F H).trans A9)⟩
  simp[By];omega
 have AF:C<=j:=by omega
 have z:j=C:=by omega
 have HE:=qh z;clear z;go_wp2
 go_ret;refine⟨_,rfl,E.o.eqL ?_,F.o⟩;rw[HE.o];simp only[Q2x,a.o]
def Z4.focRX{J w B P pb L p}(h:Z4 J B pb L w p P)(U:pb<J){k:Nat}(V:k<(pW p)):
  ∃(px:Option Cp) (cx:Nat) (C:List Nat),(w,B.wb,B.wo+k * 5+2,A px (wX (Q3 p k)) cx)/\Ow (.slice Q5) w [A px (wX (Q3 p k)) cx] (wX (Q3 p k)) C/\C.Nodup/\(wX (Q3 p k))<=cx/\
   ∀(w2:Bh) (F:Option Cp) (G H:Nat) (xs:List Wd) (E:List Nat),Q1 (λb=>b∈C) w w2->Ow (.slice Q5) w2 [A F G H] xs E->E.Nodup->(∀b∈E,b∈C\/w<=b)->
    ∃K,Z4 J B pb L (w2.setCell (B.wb,B.wo+k * 5+2) (A F G H)) (Q08 p k (Yh (Q3 p k) xs)) K:=by
 obtain⟨px,cx,C,c,M,W,g,X⟩:=h.pool.focR V;have O:=h.fresh.1;have S:=h.fresh.2.1;refine⟨px,cx,C,by rw[<-O,<-S];exact c,M,W, ?_,λw2 F G H xs E Y a d e=> ?_⟩
 ·obtain⟨_,_,f,i,_⟩:=Jh M.rd
  simp only[List.cons.injEq,Ci,and_true]at f;omega
 obtain⟨K,T⟩:=X w2 F G H xs E Y a d e;rw[O,S]at T;exact⟨K,h.trans U T⟩
def Qcc(bk:List Qy0)(p:Ye)(k:Nat)(w:Bh)(P:PS)(pb po:Nat)(e:Ending)(w':Bh):Prop:=
 ∃kd,e=.returned (.tuple #[I Z kd,I Z (Yo bk p k).1])/\Q1 (λc=>c=pb\/c∈P.all) w w'/\((Yo bk p k).1=0->∃P',Z4 w P pb po w' (Yo bk p k).2 P')
theorem Quu(d:Bh)(w)(AM:Bp d d w)(p0 c0)(bk:List Qy0)(AN:Rd (.slice Jl) d [A p0 bk c0] bk)(BI:bk<=Bu)(AO:∀n∈bk,Yd n=Bn){pb E}(p P)(k:Nat)(h:Y2 w pb E p P)(hS:∀b∈pb::P.all,d<=b)(C:k<(pW p))(A4:Q0y p):
  Bv prog 177 #[(pb,E),A p0 bk c0,I Z k] w (Qcc bk p k w P pb E):=by
 have AP:=qh (Z4.start h);have G:=D (pb<w) (h.mem.blk.lt);have BJ:=Q4a A4 C;obtain⟨⟨BK,BL⟩,⟨CW,CX⟩,⟨BM,BN⟩,CY,CZ,D0,D1⟩:=BJ;have x:(wV (Q3 p k)).toNat<(pW p):=by omega
 obtain⟨⟨cw,z,D2⟩,W,⟨K,e1,⟨px,cx,e2⟩,pl,cl,e3⟩,O,f,D3,D4,AQ⟩:=AP.o.cells C;have BO:(0:Int)<=(k:Int):=by omega
 have D5:(k:Int)<((pW p):Int):=by omega
 have BP:=qh hS;have AR:=qh AM;have BQ:=qh AN;have BR:=qh AO;have BS:=qh A4;have BT:=qh BI;have AS:=D (0<(wL (Q3 p k)).length->_) (Qem A4 C);have X:=D (Qyn 1/\Qyn 2/\Qyn 3/\Qyn 4/\Qyn (pA p-1)/\Qyn (pA p+1)) (by unfold Qyn;omega);have AT:=D (∀a wo:Int,Qyn (Q0r (pW p) a wo)) (λa wo=>by unfold Q0r Qyn;have h1:=Fz (a+1) (show((pW p):Int)≠0 by omega);have S:=Ez (a+1) (show(0:Int)<((pW p):Int)by omega);have h3:=Fz ((a+1)%((pW p):Int)+1) (show((pW p):Int)≠0 by omega);have h4:=Ez ((a+1)%((pW p):Int)+1) (show(0:Int)<((pW p):Int)by omega);split<;>omega);have AU:=D (∀y,(pW (Q08 p k y)).length=(pW p)) (λy=>by show((pW p).set k y).length=_;rw[Bl]);have BU:wV (Q3 p k)<((pW p):Int):=BN;have AV:=qh (Qca p k);obtain⟨B,A5⟩:∃B,(wV (Q3 p k)).toNat=B:=⟨_,rfl⟩;rw[A5]at x AV;have m:=qh A5;have BV:=D (Qjd p k=Q3 p B) (by unfold Qjd;rw[A5]);clear AN AO A4 h hS AM A5;have T:=D ((Q1g p k=Bn/\wV (Q3 p k)≠(k:Int)/\0<(wX (Q3 p B)).length)\/(Q1g p k=Bm/\(wV (Q3 p k)=(k:Int)\/(wV (Q3 p k)≠(k:Int)/\(wX (Q3 p B)).length=0)))) (by
  rw[AV.o];by_cases c1:wV (Q3 p k)=(k:Int)
  ·exact .inr ⟨by simp[c1],.inl c1⟩
  by_cases c2:0<(wX (Q3 p B)).length
  ·exact .inl ⟨by simp[c1,c2],c1,c2⟩
  have c3:(wX (Q3 p B)).length=0:=by omega
  exact .inr ⟨by simp[c3],.inr ⟨c1,c3⟩⟩)
 have g:=D (∀kd w' p' Y,Yo bk p k=(0,p')->Z4 w P pb E w' p' Y->Qcc bk p k w P pb E (.returned (.tuple #[I Z kd,()])) w') (λkd w' p' Y e hs=>⟨kd,by rw[e],hs.fr,λ_=>⟨Y,by rw[e];exact hs⟩⟩);go_enter func177,ntmps177;go_upto_region 2 with fail
 go_quiet(fail)
 refine Qp λL AW=> ?_;have AC:Bp w w L:=by rw[AW];exact Q8 (Ai _ _) _
 have H:=D (Z4 w P pb E L p P) (AP.o.below AC);have BW:=qh AC;clear AW K e1 e2 e3 z W O f AC;obtain⟨⟨D6,z,D7⟩,W,⟨K,e1,⟨px,cx,e2⟩,pl,cl,e3⟩,O,f,BX,D8,-⟩:=H.o.cells C;obtain⟨-,-,⟨-,-,⟨pv,cv,AX⟩,-⟩,-,-,-,-,-⟩:=H.o.cells x;have o:L.cell? ⟨P.wb,P.wo+(wV (Q3 p k)).toNat * 5+2,N⟩=R (A pv (wX (Q3 p B)) cv):=by rw[m.o];exact AX
 clear AX;go_upto_region 3 with fail
 go_cut [10] (λb wx=>b=.bool (Q1g p k)/\L=wx)
 case first=>
  rcases T.o with⟨M,A6,A0⟩|⟨M,hc|⟨hc,BY⟩⟩
  ·have AY:(wV (Q3 p k) !=(k:Int))=Bn:=by simpa using A6
   have BZ:(0:Int)<(wX (Q3 p B)):=by omega
   go_wp2
   go_meet;exact⟨by rw[M],rfl⟩
  ·have AY:(wV (Q3 p k) !=(k:Int))=Bm:=by simp[hc]
   go_wp2
   go_meet;exact⟨by rw[M],rfl⟩
  have AY:(wV (Q3 p k) !=(k:Int))=Bn:=by simpa using hc
  rw[BY]at o;go_wp2
  go_meet;exact⟨by rw[M],rfl⟩
 case rest=>
 obtain⟨rfl,rfl⟩:=hcut;obtain⟨hp,A7⟩:∃b,Q1g p k=b:=⟨_,rfl⟩;rw[A7]at T;rw[A7];have C0:=qh A7;clear A7;by_cases q1:0<(wL (Q3 p k)).length
 ·have F:=D (Yo bk p k=(0,((Ja (pM p) (Q3 p k)).1,(pW p).set k (Ja (pM p) (Q3 p k)).2,pA p))) (by unfold Yo;simp only;rw[if_pos q1])
  have AD:=qh q1;have C1:(0:Int)<(wL (Q3 p k)):=by omega
  have AZ:=D ((wL (Q3 p k)).length<=1000000/\(wX (Q3 p k)).length<=1000000) (by omega);go_wp2_with((go_at_call 211;(with_reducible refine(Qms pb E p P k H.o.pool C AD AZ.o.1 AZ.o.2 (AS.o AD).1 (AS.o AD).2).mono ?_);rintro e w1 ⟨rfl,M⟩;have HR:=qh M;clear M))
  go_ret2
  obtain⟨Y,r⟩:=HR.o;exact g.o _ _ _ _ F (H.o.trans G r)
 have C1:¬(0:Int)<(wL (Q3 p k)):=by omega
 by_cases q2:0<(wX (Q3 p k)).length
 ·obtain⟨l,B0⟩:=Qlm bk BS C q2
  have C2:=qh B0;have F:=D (Yo bk p k=(Q0f bk (pM p) (Q3 p k),Q50 bk p k)) (by
   unfold Yo Q50;simp only;rw[if_neg q1,if_pos q2];by_cases e:Q0f bk (pM p) (Q3 p k)=0
   ·simp[e]
   simp[e])
  have C3:=qh q2;have C4:=D (wL (Q3 p k)=[]) (List.eq_nil_of_length_eq_zero (by omega));have C5:(0:Int)<(wX (Q3 p k)):=by omega
  have C6:=D (d,L) (AR.o.trans (BW.o.mono AR.o.size));clear B0;go_wp2_with((go_at_call 212;(with_reducible refine(Qsv d _ C6 p0 c0 bk BQ BT BR pb E p P k H.o.pool BP C C3 C4 l C2).mono ?_);rintro e w1 ⟨rfl,hf,M⟩;have HR:=qh M;have C7:=qh hf;clear M hf))
  go_ret2
  refine⟨2,by rw[F.o]<;>rfl,(H.o.fr).trans C7,λe=> ?_⟩;rw[F.o]at e⊢;obtain⟨Y,r⟩:=HR.o e;exact⟨Y,H.o.trans G r⟩
 have C5:¬(0:Int)<(wX (Q3 p k)):=by omega
 have J:=qh (show Yo bk p k=(if wP (Q3 p k)==1 then(0,(pM p,(pW p).set k (Q6k (Yx (Q3 p k) 2) (Q0r (pW p) k k)),pA p-1))
  else if wP (Q3 p k)==3 then
   if hp then(0,(pM p,((pW p).set k (Yx (Yh (Q3 p k) [(wX (Q3 p B)).getD 0 (0,0)]) 1)).set B (Yh (Q3 p B) ((wX (Q3 p B)).drop 1)),pA p))
   else(0,(pM p,(pW p).set k (Yx (Q3 p k) 2),pA p-1))
  else if pA p==0 then(0,(pM p,(pW p).set k (Yx (Q3 p k) 4),pA p))
  else if hp then(0,(pM p,(pW p).set k (Yx (Q3 p k) 3),pA p+1))
  else(0,(pM p,(pW p).set k (Q6k (Q3 p k) (Q0r (pW p) (wV (Q3 p k)) k)),pA p)))by unfold Yo;simp only;rw[if_neg q1,if_neg q2,C0.o,BV.o,m.o])
 clear q1 q2;have B1:=D (-10<=pA p/\pA p<=10) (by omega);have B2:∀(y:Qxb) (a:Int),k<(pW (pM p,(pW p).set k y,a)):=λy a=>by show k<((pW p).set k y);rw[Bl];exact C
 by_cases q3:wP (Q3 p k)=1
 ·have F:=D (Yo bk p k=(0,(pM p,(pW p).set k (Q6k (Yx (Q3 p k) 2) (Q0r (pW p) k k)),pA p-1))) (by rw[J.o,q3];rfl)
  rw[q3]at K;clear q3 J T;go_upto_region 12 with((go_at_call 213;(with_reducible refine(Qom pb E P.wb (P.wo+k * 5) (pA p) 1 W K f O B1 AQ).mono ?_);rintro e W2 ⟨rfl,hw⟩;have AE:=qh hw;clear hw))
  obtain⟨i,S⟩:=(H.o.stA G X.o.2.2.2.2.1).stP G (k:=k) C X.o.2.1;have s:=D (Z4 w P pb E W2 (pM p,(pW p).set k (Yx (Q3 p k) 2),pA p-1) i) (by rw[AE.o];exact S);have C8:=qh s.o.pool.at;have B3:=D (((pW p).set k (Yx (Q3 p k) 2)).length=(pW p)) (Bl);have AF:=D (1<=((pW p).set k (Yx (Q3 p k) 2)).length/\((pW p).set k (Yx (Q3 p k) 2)).length<=4/\(k:Int)<((pW p).set k (Yx (Q3 p k) 2))) (by rw[B3.o];omega);clear S W K e1 e2 e3 z O f o;obtain⟨-,-,⟨-,f1,-,-⟩,O,-,C9,-,-⟩:=s.o.cells (B2 _ _);go_wp2_with((go_at_call 214;(with_reducible refine(Qq1 pb E (pM p) _ _ (k:Int) (k:Int) C8 AF.o.1 AF.o.2.1 BO AF.o.2.2).mono ?_);rintro e w3 ⟨rfl,rfl⟩;rw[B3.o]))
  go_ret2
  obtain⟨P3,h3⟩:=s.o.stV G (B2 _ _) (AT.o k k);rw[Q9f C,Qiy]at h3;exact g.o 3 _ _ _ F h3
 have A8:(wP (Q3 p k)==1)=Bm:=by simpa using q3
 by_cases v:wP (Q3 p k)=3
 ·cases hp with
  |false=>
   have F:=D (Yo bk p k=(0,(pM p,(pW p).set k (Yx (Q3 p k) 2),pA p-1))) (by rw[J.o,v];rfl);rw[v]at K;clear q3 A8 v J T;go_wp2_with((go_at_call 213;(with_reducible refine(Qom pb E P.wb (P.wo+k * 5) (pA p) 3 W K f O B1 AQ).mono ?_);rintro e W2 ⟨rfl,hw⟩;have AE:=qh hw;clear hw))
   go_ret2
   obtain⟨i,S⟩:=(H.o.stA G X.o.2.2.2.2.1).stP G (k:=k) C X.o.2.1;refine g.o 3 _ _ i F ?_;rw[AE.o];exact S
  |true=>
   obtain⟨-,A6,A0⟩:Bn=Bn/\wV (Q3 p k)≠(k:Int)/\0<(wX (Q3 p B)).length:=T.o.elim id λh=>absurd h.1 (by decide);have F:=D (Yo bk p k=(0,(pM p,((pW p).set k (Yx (Yh (Q3 p k) [(wX (Q3 p B)).getD 0 (0,0)]) 1)).set B (Yh (Q3 p B) ((wX (Q3 p B)).drop 1)),pA p))) (by rw[J.o,v];rfl);have BZ:(0:Int)<(wX (Q3 p B)):=by omega
   rw[v]at K;have AG:=qh A0;have AH:=D (k≠B) (λe=>A6 (by have:=m.o;omega));obtain⟨D9,CA,Gv,B4,B5,-,DA,-⟩:=H.o.focR G x;obtain⟨bv,ov,rfl,hE⟩:=Rd.elem B5.rd 0 A0;clear o;have o:L.cell? ⟨P.wb,P.wo+(wV (Q3 p k)).toNat * 5+2,N⟩=R (A (R (bv,ov)) (wX (Q3 p B)) CA):=by rw[m.o];exact B4
   have CB:=D ((wX (Q3 p B)).getD 0 (0,0)=((wX (Q3 p B))[0].1,(wX (Q3 p B))[0].2)) (by rw[Ab,Ad A0];rfl);obtain⟨f0,f1,i0,i1⟩:=At.word (t:=(wX (Q3 p B))[0].1) (a:=(wX (Q3 p B))[0].2) hE;simp only[Ty.sz,Bj,Dm,Cw]at f0 f1;have B6:=Ac L _ f0;simp only at B6;generalize (wX (Q3 p B))[0].1=ra at *
   generalize (wX (Q3 p B))[0].2=rb at *
   have B7:=D (Qyn ra/\Qyn rb) (⟨i0,i1⟩);obtain⟨DB,DC,Gk,CC,CD,-,-,B8⟩:=H.o.focR G C;have CE:=qh B8;clear B4 B5 hE i0 i1 CD B8 J T A6 e2;go_upto_region 16 with fail
   refine Qp λW6 B9=> ?_;obtain⟨P6,h6⟩:=CE.o (L.alloc (.cells #[I Z ra,I Z rb] 143)) (R ⟨L,0,N⟩) 1 1 [(ra,rb)] [L.heap.size] ((Q1.refl _ _).alloc _) (Q5k (Bg L _) B7.o.1 B7.o.2) (by simp) (λb hb=>by rw[Bb.1 hb];exact Aj _);have A9:=D (Z4 w P pb E W6 (Q08 p k (Yh (Q3 p k) [(ra,rb)])) P6) (by rw[B9,<-World.setCell_alloc_past _ _ _ _ BX];exact h6);have CF:B<(pW (Q08 p k (Yh (Q3 p k) [(ra,rb)]))).length:=by rw[AU.o];exact x
   have AI:Q3 (Q08 p k (Yh (Q3 p k) [(ra,rb)])) B=Q3 p B:=by rw[Q27 C,if_neg AH.o]
   have CG:=qh AI;obtain⟨DD,U,CH,AJ,A1,BA,CI,BB⟩:=A9.o.focRX G CF;rw[AI]at AJ A1 CI;obtain⟨A2,A3,rfl,-⟩:=Rd.elem A1.rd 0 AG;have CJ:W6.cell? ⟨P.wb,P.wo+(wV (Q3 p k)).toNat * 5+2,N⟩=R (A (R (A2,A3)) (wX (Q3 p B)) U):=by rw[m.o];exact AJ
   have DE:=(A1.flatBlk rfl AG).2.2.1;have CK:=qh (A1.rest rfl AG);have CL:=qh BB;have CM:=qh BA;have CN:=λq=>A9.o.pool.wks.blk.free q;have CO:=A9.o.pool.wks.blk.lt;rw[A9.o.fresh.1]at CN CO;have DF:1<=(wX (Q3 p B)).length:=A0;have CP:(1:Int)<=(wX (Q3 p B)):=by omega
   have DG:(1:Int)<=U:=by omega
   clear B9 h6 W z K e1 e3 O f CC f0 f1 AJ A1 BB BA AI o B6;have BC:=D (∀u:Bk,u=(if 1=U then A (R (A2,A3)) 0 0 else A (R (A2,A3+2)) ((wX (Q3 p B)).length-1) (U-1))->∃Y,Z4 w P pb E (W6.setCell ⟨P.wb,P.wo+(wV (Q3 p k)).toNat * 5+2,N⟩ u) (Q08 (Q08 p k (Yh (Q3 p k) [(ra,rb)])) B (Yh (Q3 p B) ((wX (Q3 p B)).drop 1))) Y) (λu hu=>by
    obtain⟨j,n5,c5,e5⟩:∃(j:Option Cp) (n5 c5:Nat),u=A j n5 c5:=by
     by_cases e:1=U
     ·rw[if_pos e]at hu;exact⟨_,_,_,hu⟩
     rw[if_neg e]at hu;exact⟨_,_,_,hu⟩
    have r:=CK.o;rw[show Q5.sz=2 from rfl,<-hu,e5]at r;obtain⟨P5,h5⟩:=CL.o W6 j n5 c5 _ CH (Q1.refl _ _) r CM (λb hb=> .inl hb);rw[CG.o]at h5;rw[e5,m.o];exact⟨P5,h5⟩)
   have CQ:=D (∀V P7,Z4 w P pb E V (Q08 (Q08 p k (Yh (Q3 p k) [(ra,rb)])) B (Yh (Q3 p B) ((wX (Q3 p B)).drop 1))) P7->((V,P.wb,P.wo+k * 5,I Z (wP (Q3 (Q08 (Q08 p k (Yh (Q3 p k) [(ra,rb)])) B (Yh (Q3 p B) ((wX (Q3 p B)).drop 1))) k)))/\(∀q,V.frozen? ⟨P.wb,q,N⟩=Bm))/\Qcc bk p k w P pb E (.returned (.tuple #[I Z 5,()])) (V.setCell (P.wb,P.wo+k * 5) (I Z 1))) (λV P7 c=>by
    have BD:k<(pW (Q08 (Q08 p k (Yh (Q3 p k) [(ra,rb)])) B (Yh (Q3 p B) ((wX (Q3 p B)).drop 1)))):=by show k<(((pW p).set k _).set B _);rw[Bl,Bl];exact C
    obtain⟨-,-,⟨AK,-,-,-⟩,BE,-,-,-,-⟩:=c.cells BD;obtain⟨P8,h8⟩:=c.stP G BD X.o.1;refine⟨⟨AK,BE⟩,g.o 5 _ _ P8 F ?_⟩;rw[CB.o];have AA:Q08 (Q08 (Q08 p k (Yh (Q3 p k) [(ra,rb)])) B (Yh (Q3 p B) ((wX (Q3 p B)).drop 1))) k (Yx (Q3 (Q08 (Q08 p k (Yh (Q3 p k) [(ra,rb)])) B (Yh (Q3 p B) ((wX (Q3 p B)).drop 1))) k) 1)=(pM p,((pW p).set k (Yx (Yh (Q3 p k) [(ra,rb)]) 1)).set B (Yh (Q3 p B) ((wX (Q3 p B)).drop 1)),pA p):=by
     have CR:Q3 (Q08 (Q08 p k (Yh (Q3 p k) [(ra,rb)])) B (Yh (Q3 p B) ((wX (Q3 p B)).drop 1))) k=Yh (Q3 p k) [(ra,rb)]:=by rw[Q27 (by rw[AU.o];exact x),if_neg (λe=>AH.o e.symm),Q27 C,if_pos rfl]
     rw[CR];unfold Q08;simp only[pM,pW,pA];rw[List.set_comm _ _ (λe=>AH.o e.symm),He]
    rw[AA]at h8;exact h8)
   by_cases BF:1=U;case' pos=>
    subst BF;have CS:(wX (Q3 p B)).length=1:=by omega
    rw[CS]at CJ CP;go_upto_region 17 with fail
    refine Qp λV AB=> ?_;obtain⟨P7,c⟩:=BC.o (A (R (A2,A3)) 0 0) (by simp);rw[<-AB]at c
   case' neg=>
    have DH:(1:Int)<U:=by omega
    have DI:(U:Int)≠1:=by omega
    go_upto_region 17 with fail
    refine Qp λV AB=> ?_;obtain⟨P7,c⟩:=BC.o (A (R (A2,A3+2)) ((wX (Q3 p B)).length-1) (U-1)) (by simp[BF]);rw[<-AB]at c
   all_goals
    clear AB;obtain⟨⟨AK,BE⟩,AA⟩:=CQ.o V P7 c;have CT:=qh AA;clear AA c;have CU:=Ac V _ AK;simp only at CU;go_wp2_with fail
    go_ret2
    exact CT.o
 have AL:(wP (Q3 p k)==3)=Bm:=by simpa using v
 by_cases j:pA p=0
 ·have F:=D (Yo bk p k=(0,(pM p,(pW p).set k (Yx (Q3 p k) 4),pA p))) (by rw[J.o,A8,AL,j];rfl)
  rw[j]at W;clear J T;go_wp2_with fail
  go_ret2
  obtain⟨i,S⟩:=H.o.stP G C X.o.2.2.2.1;exact g.o 6 _ _ i F S
 have BG:(pA p==0)=Bm:=by simpa using j
 cases hp with
 |true=>
  have F:=D (Yo bk p k=(0,(pM p,(pW p).set k (Yx (Q3 p k) 3),pA p+1))) (by rw[J.o,A8,AL,BG];rfl);clear J T;go_upto_region 27 with fail
  refine Qp λW2 BH=> ?_;have s:=D (Z4 w P pb E W2 (pM p,pW p,pA p+1) P) (by rw[BH];exact H.o.stA G X.o.2.2.2.2.2);clear BH W z K e1 e2 e3 O f o;obtain⟨-,-,⟨K,-,-,-⟩,O,-,C9,-,-⟩:=s.o.cells (k:=k) C;go_wp2_with fail
  go_ret2
  obtain⟨P3,h3⟩:=s.o.stP G (k:=k) C X.o.2.2.1;exact g.o 4 _ _ P3 F h3
 |false=>
  have F:=D (Yo bk p k=(0,(pM p,(pW p).set k (Q6k (Q3 p k) (Q0r (pW p) (wV (Q3 p k)) k)),pA p))) (by rw[J.o,A8,AL,BG];rfl);have CV:=qh H.o.pool.at;clear J T;go_wp2_with((go_at_call 214;(with_reducible refine(Qq1 pb E (pM p) (pW p) (pA p) (wV (Q3 p k)) (k:Int) CV BK BL BM BU).mono ?_);rintro e w2 ⟨rfl,rfl⟩))
  go_ret2
  obtain⟨i,S⟩:=H.o.stV G C (AT.o (wV (Q3 p k)) k);exact g.o 4 _ _ i F S
def Qcb(w vs d){x y:Qb}(f:Rd Q4 w vs x)(g:Rd Q4 w d y):
  Bv prog 137 #[.agg vs.toArray,.agg d.toArray] w (oR w (Qyo Q4 x y)):=by
 obtain⟨S,T,U,C,F⟩:=x;obtain⟨V,W,X,G,H⟩:=y;obtain⟨n,o,p,q,rfl,-,⟨-,-,i⟩,⟨-,-,j⟩⟩:=f.agentV;obtain⟨r,s,t,u,rfl,-,⟨-,-,k⟩,⟨-,-,l⟩⟩:=g.agentV;have v:=qh i;have z:=qh k;have H4:=qh j;have A0:=qh l;clear f g i k j l;obtain⟨E3,Y⟩:∃E,E=Qyo (Ty.slice Ty.int) C G:=⟨_,rfl⟩;obtain⟨E4,a⟩:∃E,E=Qyo (Ty.slice Q5) F H:=⟨_,rfl⟩;have HP:=D (Qyo Q4 (S,T,U,C,F) (V,W,X,G,H)=(S==V && T==W && U==X && E3 && E4)) (by rw[Y,a,Ev,Z5];simp only[Bi,beq_iff_eq,Z5];exact⟨λh=>by simp only[Fg]at h;simp[h],λh=>by simp[h]⟩);have A1:=qh Y.symm;have A2:=qh a.symm;clear Y a;go_enter func137,ntmps137;go_upto_region 1 with fail
 refine Qp λb c=> ?_;have J:=D (w,b) (by rw[c];go_grown);have m:=D ((b,oC w.heap.size #[S,T,U,A n C o,A p F q] 172)/\(b,oC (w.heap.size+1) #[V,W,X,A r G s,A t H u] 172)) (by rw[c];exact Jt w _ _ _ _);clear c;obtain⟨⟨a0,a1,a2,K,L⟩,-⟩:=Yf m.o.1;obtain⟨⟨b0,b1,b2,M,O⟩,-⟩:=Yf m.o.2;go_wp2_with(first|((go_at_call 81;(with_reducible refine jR (Q8v.1 _ _ _ C G (v.o.kb J) (z.o.kb J)) λw3 B=> ?_);rw[A1.o];have P:=qh (Q0 J B);have K:=jC B K;have L:=jC B L;have M:=jC B M;have O:=jC B O;clear B))|((go_at_call 178;(with_reducible refine jR (Q8v.2.1 _ _ _ F H (H4.o.kb P) (A0.o.kb P)) λw4 B=> ?_);rw[A2.o];have A3:=qh (Q0 P B);have K:=jC B K;have L:=jC B L;have M:=jC B M;have O:=jC B O;clear B))|fail)
 all_goals(go_ret;exact⟨Q2 (by rw[HP.o];simp_all),(by first|with_reducible exact A3.o|with_reducible exact P.o|with_reducible exact J.o)⟩)
def Qdp(w vs g){x y:Qxb}(i:Rd Qh w vs x)(j:Rd Qh w g y):
  Bv prog 78 #[.agg vs.toArray,.agg g.toArray] w (oR w (Qyo Qh x y)):=by
 obtain⟨V,W,J,K,L⟩:=x;obtain⟨X,Y,M,O,P⟩:=y;obtain⟨r,s,t,u,v,z,rfl,-,⟨-,-,k⟩,⟨-,-,l⟩,⟨-,-,m⟩⟩:=i.workerV;obtain⟨A0,A1,A2,A3,A4,A5,rfl,-,⟨-,-,n⟩,⟨-,-,o⟩,⟨-,-,p⟩⟩:=j.workerV;have H2:=qh k;have A6:=qh n;have H3:=qh l;have A7:=qh o;have H4:=qh m;have A8:=qh p;clear i j k n l o m p;obtain⟨E2,a⟩:∃E,E=Qyo (Ty.slice Q5) J M:=⟨_,rfl⟩;obtain⟨E3,b⟩:∃E,E=Qyo (Ty.slice Z7) K O:=⟨_,rfl⟩;obtain⟨E4,c⟩:∃E,E=Qyo (Ty.slice Ty.int) L P:=⟨_,rfl⟩;have HP:=D (Qyo Qh (V,W,J,K,L) (X,Y,M,O,P)=(V==X && W==Y && E2 && E3 && E4)) (by rw[a,b,c,Ev,Z5];simp only[Bi,beq_iff_eq,Z5];exact⟨λh=>by simp only[Fg]at h;simp[h],λh=>by simp[h]⟩);have A9:=qh a.symm;have AA:=qh b.symm;have AB:=qh c.symm;clear a b c;go_enter func78,ntmps78;go_upto_region 1 with fail
 refine Qp λd f=> ?_;have S:=D (w,d) (by rw[f];go_grown);have q:=D ((d,oC w.heap.size #[V,W,A r J s,A t K u,A v L z] 116)/\(d,oC (w.heap.size+1) #[X,Y,A A0 M A1,A A2 O A3,A A4 P A5] 116)) (by rw[f];exact Jt w _ _ _ _);clear f;obtain⟨⟨a0,a1,a2,C,F⟩,-⟩:=Yf q.o.1;obtain⟨⟨b0,b1,b2,G,H⟩,-⟩:=Yf q.o.2;go_wp2_with(first|((go_at_call 79;(with_reducible refine jR (Q8v.2.2.1 _ _ _ J M (H2.o.kb S) (A6.o.kb S)) λw2 B=> ?_);rw[A9.o];have T:=qh (Q0 S B);have C:=jC B C;have F:=jC B F;have G:=jC B G;have H:=jC B H;clear B))|((go_at_call 80;(with_reducible refine jR (Q8v.2.2.2 _ _ _ K O (H3.o.kb T) (A7.o.kb T)) λw3 B=> ?_);rw[AA.o];have U:=qh (Q0 T B);have C:=jC B C;have F:=jC B F;have G:=jC B G;have H:=jC B H;clear B))|((go_at_call 81;(with_reducible refine jR (Q8v.1 _ _ _ L P (H4.o.kb U) (A8.o.kb U)) λw4 B=> ?_);rw[AB.o];have AC:=qh (Q0 U B);have C:=jC B C;have F:=jC B F;have G:=jC B G;have H:=jC B H;clear B))|fail)
 all_goals(go_ret;exact⟨Q2 (by rw[HP.o];simp_all),(by first|with_reducible exact AC.o|with_reducible exact U.o|with_reducible exact T.o|with_reducible exact S.o)⟩)
abbrev Qmn(f g:Nat)(t:Ty):Prop:=∀(w:Bh) (v1 v2:Bk) (xs ys:List t.den),Rd (.slice t) w [v1] xs->Rd (.slice t) w [v2] ys->Bv prog f #[v1,v2,.func (.func g) #[] #[]] w (oR w (Qyo (.slice t) xs ys))
def Qm7:Qmn 136 137 Q4/\Qmn 77 78 Qh:=by
 have A9:Vw prog 137:=by intro _ _;kernel_rfl
 have AA:Vw prog 78:=by intro _ _;kernel_rfl
 unfold Vw at A9 AA;refine⟨?_, ?_⟩
 all_goals
  intro w v1 v2 xs ys B C;obtain⟨p,c,e1,-,AB,B⟩:=Jh B;obtain⟨q,c',e2,-,AC,C⟩:=Jh C;simp only[List.cons.injEq,and_true]at e1 e2;subst e1;subst e2;unfold Bu at AB AC;have H1:=qh B;have H2:=qh C;clear B C;by_cases Y:Ca xs=Ca ys;rotate_left
  ·have AD:(((Ca xs:Nat):Int) !=((Ca ys:Nat):Int))=Bn:=by simp;omega
   have HN:=D (¬xs=ys) (λe=>Y (by rw[e]));clear Y;first|(go_enter func136,ntmps136)|(go_enter func77,ntmps77)
   go_wp2
   go_ret;exact⟨Q2 (Vu HN).symm,Ai _ _⟩
  have AD:(((Ca xs:Nat):Int) !=((Ca ys:Nat):Int))=Bm:=by simp[Y]
  have HL:=qh Y;clear Y;first|(go_enter func136,ntmps136)|(go_enter func77,ntmps77)
  go_wp2
  go_loopw [17] (λi wr=>∃k:Nat,k<=Ca xs/\i=I Z k/\Hd (List.take k xs=List.take k ys)/\Hd (w,wr)) (λi _=>Ca xs-(By i).toNat);case atStart=>exact⟨0,Ak _,rfl,rfl,Ai _ _⟩
  obtain⟨k,hk,rfl,HT,u⟩:=hrel;by_cases v:k<Ca xs;rotate_left
  ·have B:Ca xs<=k:=by omega
   have C:Ca ys<=k:=by rw[<-HL.o];omega
   have HN:=qh (Jq HT B C);go_wp2
   go_ret;exact⟨Q2 (Js HN).symm,u.o⟩
  have A0:k<Ca ys:=by rw[<-HL.o];exact v
  obtain⟨b1,o1,rfl,E⟩:=Rd.elem (H1.o.kb u.o) k v;obtain⟨b2,o2,rfl,F⟩:=Rd.elem (H2.o.kb u.o) k A0;generalize hxk:xs[k]=x at E;generalize hyk:ys[k]=y at F;have A2:=qh hxk;have A3:=qh hyk;clear hxk hyk;obtain⟨G,H,J,K,L⟩:=x;obtain⟨M,O,P,S,T⟩:=y
  first
   |(obtain⟨a,b,d,f,⟨g,z,h,U,V⟩,-⟩:=E.agent
     obtain⟨j,l,m,n,⟨o,d1,r,W,X⟩,-⟩:=F.agent;have HA:=qh (E.rdv U V);have HE:=qh (F.rdv W X);have HH:=qh (Jt wr #[G,H,J,A a K b,A d L f] #[M,O,P,A j S l,A m T n] 172 172))
   |(obtain⟨p2,c2,a,b,d,f,⟨g,z,h,U,V⟩,-⟩:=E.worker
     obtain⟨A4,A5,j,l,m,n,⟨o,d1,r,W,X⟩,-⟩:=F.worker;have HA:=qh (E.rdvW h U V);have HE:=qh (F.rdvW r W X);have HH:=qh (Jt wr #[G,H,A p2 J c2,A a K b,A d L f] #[M,O,A A4 P A5,A j S l,A m T n] 116 116))
  simp only[Ty.sz,Bj]at g z h U V o d1 r W X;have A6:=Ac wr _ g;have A7:=Ac wr _ o;simp only at A6 A7;have AE:(k:Int)<((Ca ys:Nat):Int):=by omega
  clear E F;go_upto_region 7 with fail
  refine Qp λW5 A1=> ?_;have s:=D (wr,W5) (by rw[A1];go_grown);have t:=HH.o;rw[<-A1]at t;replace t:=qh t;clear A1 HH g z h U V o d1 r W X A6 A7;obtain⟨⟨g,z,h,U,V⟩,-⟩:=Yf t.o.1;obtain⟨⟨o,d1,r,W,X⟩,-⟩:=Yf t.o.2;first|cases hp:Qyo Q4 (G,H,J,K,L) (M,O,P,S,T)|cases hp:Qyo Qh (G,H,J,K,L) (M,O,P,S,T)
  all_goals
   have HP:=qh hp;clear hp;go_wp2_with fail
   first|refine(Qcb W5 [G,H,J,A a K b,A d L f] [M,O,P,A j S l,A m T n] (HA.o.kb s.o) (HE.o.kb s.o)).mono ?_|refine(Qdp W5 [G,H,A p2 J c2,A a K b,A d L f] [M,O,A A4 P A5,A j S l,A m T n] (HA.o.kb s.o) (HE.o.kb s.o)).mono ?_
   rintro e w6 ⟨rfl,hb⟩;have A8:=qh (Q0 (Q0 u.o s.o) hb);clear hb;rw[HP.o];go_wp2
   first
    |(go_ret;exact⟨Q2 (Vu (Yi v A0 (by rw[A2.o,A3.o];exact Zu.1 HP))).symm,A8.o⟩)
    |(go_roundw
      case rel=>exact⟨k+1,by omega,by go_num,Ys v A0 HT (by rw[A2.o,A3.o];exact Z5.1 HP),A8.o⟩
      simp[By];omega)
def Qmx:Qmn 136 137 Q4:=Qm7.1
def Qq7:Qmn 77 78 Qh:=Qm7.2
def Rd.memV{w vs}{cs:List Qb}{f E F:Int}{xs:List Wd}(h:Rd Qq w vs (cs,f,(E,F),xs)):
  ∃(B:Option Cp) (C:Nat) (px:Option Cp) (cx:Nat),vs=[A B cs C,f,E,F,A px xs cx]/\(Qyn f/\Qyn E/\Qyn F)/\(cs<=Bu/\Rd (.slice Q4) w [A B cs C] cs)/\(xs<=Bu/\Rd (.slice Q5) w [A px xs cx] xs):=by
 obtain⟨_,_,rfl,G,_,_,rfl,⟨rfl,J⟩,_,_,rfl,⟨_,_,rfl,⟨rfl,K⟩,⟨rfl,L⟩⟩,H⟩:=h;obtain⟨B,C,rfl,P,M,G⟩:=Jh G;obtain⟨px,cx,rfl,S,O,H⟩:=Jh H;exact⟨B,C,px,cx,rfl,⟨J,K,L⟩,⟨M,G⟩,⟨O,H⟩⟩
def Qly{w}(vs U){x y:Qyb}(V:Rd Qq w vs x)(W:Rd Qq w U y):
  Bv prog 76 #[.agg vs.toArray,.agg U.toArray] w (oR w (Qyo Qq x y)):=by
 obtain⟨cs,f,⟨H,J⟩,xs⟩:=x;obtain⟨C,g,⟨K,L⟩,ys⟩:=y;obtain⟨n,o,px,cx,rfl,⟨-,X,Y⟩,⟨-,a⟩,⟨-,b⟩⟩:=V.memV;obtain⟨p,q,r,s,rfl,⟨-,c,d⟩,⟨-,i⟩,⟨-,j⟩⟩:=W.memV;have t:=qh a;have u:=qh b;have v:=qh i;have z:=qh j;have hq:=λw=>Qs2 X Y c d w;clear V W a b i j X Y c d;obtain⟨E1,M⟩:∃E,E=Qyo (.slice Q5) xs ys:=⟨_,rfl⟩;obtain⟨E2,O⟩:∃E,E=Qyo (.slice Q4) cs C:=⟨_,rfl⟩;obtain⟨E0,P⟩:∃E,E=(H==K && J==L):=⟨_,rfl⟩;have HP:=D (Qyo Qq (cs,f,(H,J),xs) (C,g,(K,L),ys)=(f==g && E0 && E1 && E2)) (by rw[P,M,O,Ev,Z5];simp only[Bi,beq_iff_eq,Z5];exact⟨λh=>by simp only[Fg]at h;simp[h],λh=>by simp[h]⟩);have A0:=qh M.symm;have A1:=qh O.symm;rw[<-P]at hq;clear P M O;go_enter func76,ntmps76;go_upto_region 1 with fail
 refine Qp λS T=> ?_;have F:=D (w,S) (by rw[T];go_grown);have k:=D ((S,oC w.heap.size #[A n cs o,f,H,J,A px xs cx] 43)/\(S,oC (w.heap.size+1) #[A p C q,g,K,L,A r ys s] 43)) (by rw[T];exact Jt w _ _ _ _);clear T;obtain⟨⟨l,a1,a2,a3,a4⟩,-⟩:=Yf k.o.1;obtain⟨⟨m,b1,b2,b3,b4⟩,-⟩:=Yf k.o.2;go_wp2_with(first|((go_at_call 79;(with_reducible refine jR (Q8v.2.2.1 _ _ _ xs ys (u.o.kb F) (z.o.kb F)) λw1 B=> ?_);rw[A0.o];have G:=qh (Q0 F B);have l:=jC B l;have m:=jC B m;clear B))|((go_at_call 136;(with_reducible refine jR (Qmx _ _ _ cs C (t.o.kb G) (v.o.kb G)) λw2 B=> ?_);rw[A1.o];have A2:=qh (Q0 G B);clear B))|fail)
 all_goals(go_ret;exact⟨Q2 (by rw[HP.o];simp_all),(by first|with_reducible exact A2.o|with_reducible exact G.o|with_reducible exact F.o)⟩)
def Qjx{w}(vs a)(x y:Ye)(C:Rd Qv w vs x)(F:Rd Qv w a y):
  Bv prog 36 #[.agg vs.toArray,.agg a.toArray] w (oR w (Qyo Qv x y)):=by
 obtain⟨⟨cs,f,⟨G,H⟩,xs⟩,J,T⟩:=x;obtain⟨⟨K,g,⟨L,M⟩,ys⟩,O,U⟩:=y;obtain⟨b,c,px,cx,pk,ck,rfl,⟨d,i,j,i3⟩,⟨-,k⟩,⟨-,l⟩,⟨-,m⟩⟩:=C.poolV;obtain⟨n,o,p,q,pl,cl,rfl,⟨r,s,t,j3⟩,⟨-,u⟩,⟨-,v⟩,⟨-,z⟩⟩:=F.poolV;have HM:=qh (Qez k d i j l);have HN:=qh (Qez u r s t v);have HK:=qh m;have HL:=qh z;clear C F k l u v m z d i j i3 r s t j3;obtain⟨E1,V⟩:∃E,E=Qyo Qq (cs,f,(G,H),xs) (K,g,(L,M),ys):=⟨_,rfl⟩;obtain⟨E2,W⟩:∃E,E=Qyo (.slice Qh) J O:=⟨_,rfl⟩;have HP:=D (Qyo Qv ((cs,f,(G,H),xs),J,T) ((K,g,(L,M),ys),O,U)=(T==U && E1 && E2)) (by rw[V,W,Ev,Z5];simp only[Bi,beq_iff_eq,Z5];exact⟨λh=>by simp only[Fg]at h;simp[h],λh=>by obtain⟨⟨C,F⟩,h3⟩:=h;rw[C,F,h3]⟩);have A1:=qh V.symm;have A2:=qh W.symm;clear V W;go_enter func36,ntmps36;go_upto_region 1 with fail
 refine Qp λX Y=> ?_;have P:=D (w,X) (by rw[Y];go_grown);have A0:=D ((X,oC w.heap.size #[A b cs c,f,G,H,A px xs cx,A pk J ck,T] 46)/\(X,oC (w.heap.size+1) #[A n K o,g,L,M,A p ys q,A pl O cl,U] 46)) (by rw[Y];exact Jt w _ _ _ _);clear Y;obtain⟨a0,a1,a2,a3,a4,a5,a6⟩:=Q0t A0.o.1;obtain⟨b0,b1,b2,b3,b4,b5,b6⟩:=Q0t A0.o.2;go_wp2_with(first|((go_at_call 76;(with_reducible refine jR (Qly [A b cs c,f,G,H,A px xs cx] [A n K o,g,L,M,A p ys q] (HM.o.kb P) (HN.o.kb P)) λw1 B=> ?_);rw[A1.o];have S:=qh (Q0 P B);have a5:=jC B a5;have b5:=jC B b5;clear B))|((go_at_call 77;(with_reducible refine jR (Qq7 _ _ _ J O (HK.o.kb S) (HL.o.kb S)) λw2 B=> ?_);rw[A2.o];have A3:=qh (Q0 S B);clear B))|fail)
 all_goals(go_ret;exact⟨Q2 (by rw[HP.o];simp_all),(by first|with_reducible exact A3.o|with_reducible exact S.o|with_reducible exact P.o)⟩)
def Qsg(w vs){g}(x)(y:Ye)(B:Rd (.pair Qv (.pair .int (.pair .int .int))) w vs x)(c:At Qv w g 0 y):
  Bv prog 35 #[.agg vs.toArray,(g,0)] w (oR w (Qyo Qv x.1 y)):=by
 obtain⟨v1,u,rfl,B,E⟩:=B;have F:=E.length;obtain⟨v,z,u9,rfl⟩:=Qwe F;obtain⟨x,x2⟩:=x;have G:=qh B;obtain⟨X,hX⟩:∃X,X=x:=⟨_,rfl⟩;obtain⟨Y,H⟩:∃Y,Y=y:=⟨_,rfl⟩;obtain⟨us,d,r,C⟩:=c;have J:=qh C;obtain⟨⟨cs,f,⟨h,i⟩,xs⟩,j,l⟩:=x;obtain⟨⟨K,k,⟨L,M⟩,ys⟩,O,P⟩:=y;obtain⟨m,n,px,cx,o,p,rfl,-⟩:=B.poolV;obtain⟨S,T,U,V,W,a,rfl,-⟩:=C.poolV;rw[<-hX]at G⊢;rw[<-H]at J⊢
 obtain⟨q,g1,g2,g3,g4,g5,g6⟩:(w,g,0,A S K T)/\(w,g,1,k)/\(w,g,2,L)/\(w,g,3,M)/\(w,g,4,A U ys V)/\(w,g,5,A W O a)/\(w,g,6,P):=
  ⟨r 0 (by simp),r 1 (by simp),r 2 (by simp),r 3 (by simp),r 4 (by simp),r 5 (by simp),r 6 (by simp)⟩
 have s:=Ac w _ q;simp only at s;clear B C r d hX H E F;simp only[List.cons_append,List.nil_append];go_enter func35,ntmps35;go_wp2_with((go_at_call 36;(with_reducible refine jR (Qjx [A m cs n,f,h,i,A px xs cx,A o j p,l] [A S K T,k,L,M,A U ys V,A W O a,P] X Y (G.o.kb (by go_grown)) (J.o.kb (by go_grown))) λw1 b=> ?_);have t:=D (w,w1) (Q0 (by go_grown) b);clear b))
 go_ret;exact⟨rfl,t.o⟩
def Qgs(w)(n:Nat)(H:n<=1000000000):(Instr.makeSlice 39 (I Z 0) (n:Int)).run prog w=.ok (A (R (w,0)) 0 n) (w.alloc (.cells (Ds (Value.agg #[(),(),(),jN,jN]).cells (n * 5)) 172)):=by
 obtain⟨B,C,E,F,G⟩:=Ck Q7f;have:=run_make (P:=prog) w 39 172 B (Value.agg #[(),(),(),jN,jN]) underlying39 C E Z Z (0:Int) (n:Int) (by omega) (by omega) (by rw[G];omega) (by omega);rw[F]at this;simpa using this
def Qwy{w:Bh}{b:Nat}{k l v:Int}{C B T}(h:w.heap[b]?=R (.cells #[k,l,v,C,B] T))(x y):((w.setCell (b,3) x).setCell (b,4) y).heap[b]?=R (.cells #[k,l,v,x,y] T):=by
 have E:(w.setCell (b,3) x).heap[b]?=R (.cells #[k,l,v,x,B] T):=by rw[Z1 h];simp
 rw[Z1 E];simp
def Q4q{W:Bh}{w1 C B}{X g:Nat}{n p c}{xs:List Wd}{f J K cur}(S:Qy7 (.slice Q5) B w1 [A p xs c] xs)(j:W<=B)(hX:W<=X/\(X<B\/w1<=X))(T:W<=g/\(g<B\/w1<=g))(U:g≠X)(H:Q1 (λc=>c=X) w1 C)(E:Bp W W w1)(V:C.heap[X]?=R (Q06 (A (R (g,0)) 0 n) f J K (A p xs c)))(Y:C.heap[g]?=R (.cells cur 172 (0,0)))(a:cur.size=n * 5)(k:n<=1000000):
  ∃(G:Nat) (q:Option Cp) (L:Nat) (M:Option Cp) (O:Nat) (Fx:List Nat),(Value.pointer (R (X,0)))=.pointer (R (G,0))/\W<=G/\C.heap[G]?=R (Q06 (A q 0 L) f J K (A M xs O))/\G∉Fx/\Q91 (.slice Q4) (λb=>W.heap.size<=b/\b≠G/\b∉Fx) C [A q 0 L] []/\Ow (.slice Q5) C [A M xs O] xs Fx/\Fx.Nodup/\(∀b∈Fx,W<=b/\b<C.heap.size)/\(W,C):=by
 obtain⟨F,o,d,r⟩:=S;have l:=H.size;have P:X∉F:=λh=>by have:=r X h;omega
 have i:g∉F:=λh=>by have:=r g h;omega
 exact⟨X,_,_,_,_,F,rfl,hX.1,V,P,Q91.room Y (by rw[a];exact Aj _) (by unfold Bu;omega) ⟨T.1,U,i⟩,o.frame H (λb E=>⟨(r b E).2,λe=>by subst e;exact P E⟩),d,λb E=>⟨by have:=r b E;omega,by have:=r b E;omega⟩,E.trans (H.below E.size (λc m=>by omega))⟩
theorem Qeg(w){vs}(cs:List Qb)(f H J:Int)(xs:List Wd)(h:Rd Qq w vs (cs,f,(H,J),xs))(E:cs.length<=1000000)(hz:∀x∈cs,(aD x).length<=100000000/\(aW x).length<=100000000)(A6:xs.length<=100000000):
  Bv prog 172 #[.agg vs.toArray] w (Q2w Qq w (cs,f,(H,J),xs)):=by
 obtain⟨pc,cc,px,cx,rfl,u,⟨BE,hr⟩,⟨BF,hx⟩⟩:=h.memV;have HN:=qh hr;have HZ:=qh hz;have HX:=qh hx;have HI:=qh u;have CD:=λW=>Qgs W cs (by omega);have AS:∀n:Nat,(Ds (Value.agg #[(),(),(),jN,jN]).cells n).size=n:=Qh9;generalize hcur:Ds (Value.agg #[(),(),(),jN,jN]).cells (cs.length * 5)=cur at *
 have A2:=D (cur.size=cs * 5) (by rw[<-hcur];exact AS _);have CE:(cs:Int)<=9223372036854775807:=by omega
 unfold Bu at BE BF;clear h hr hz hx u hcur AS;go_enter func172,ntmps172;go_upto_region 1 with fail
 refine Qp λW hW=> ?_;have AT:=D (w,W) (by rw[hW];go_grown);have hh:=Jt w #[A pc cs cc,f,H,J,A px xs cx] #[jN,(),(),(),jN] 43 43;rw[<-hW]at hh;have AL:=qh hh.1;have BG:=qh hh.2;obtain⟨⟨k0,k1,k2,k3,k4⟩,-⟩:=Yf AL;have AB:=D (W.heap.size=w+2) (by rw[hW];simp);have CF:w.heap.size<W:=by have:=AB.o;omega
 have HK:=D (∀B,Bp W W B->(B,w.heap.size,0,A pc cs cc)/\(B,w.heap.size,1,f)/\(B,w.heap.size,2,H)/\(B,w.heap.size,3,J)/\(B,w.heap.size,4,A px xs cx)) (λB C=>(Yf (Qf AL C)).1);have A7:=D (∀B,Bp W W B->Rd (.slice Q5) B [A px xs cx] xs) (λB C=>HX.o.kb (Q0 AT C));have BH:=qh (Aj W);have BI:=qh (Nat.le_succ W);clear hW hh;go_cut [3] (λx wz=>∃(X:Nat) (q:Option Cp) (O:Nat) (p:Option Cp) (r:Nat) (Fx:List Nat),x=.pointer (R (X,0))/\W<=X/\wz.heap[X]?=R (Q06 (A q 0 O) f H J (A p xs r))/\X∉Fx/\Q91 (.slice Q4) (λb=>W.heap.size<=b/\b≠X/\b∉Fx) wz [A q 0 O] []/\Ow (.slice Q5) wz [A p xs r] xs Fx/\Fx.Nodup/\(∀b∈Fx,W<=b/\b<wz.heap.size)/\(W,wz))
 case first=>
  go_region_held3(λB=>(B,w.heap.size,0,A pc cs cc)/\(B,w.heap.size,1,f)/\(B,w.heap.size,2,H)/\(B,w.heap.size,3,J)/\(B,w.heap.size,4,A px xs cx))
   (first|((with_reducible refine A8.o _ ?_);(repeat(first|with_reducible exact Q1.refl _ _|with_reducible apply Q1.drew|with_reducible apply Q1.alloc|(with_reducible first|refine Q1.setCell ?_ BH _|refine Q1.setCell ?_ BI _))))|((refine HK.o _ ?_);go_grown))
   (first
    |((go_at_call 173;(with_reducible refine(Q3s ((W.alloc (.cells cur 172)).alloc (.cells #[jN,(),(),(),jN] 43)).drew _ xs (A7.o _ (show Bp W W ((W.alloc (.cells cur 172)).alloc (.cells #[jN,(),(),(),jN] 43)).drew by go_grown)) A6).mono ?_);rintro e w1 ⟨v1,rfl,E,C⟩;obtain⟨U,P,rfl⟩:=V6 E;have T:=qh E;have s:=qh (Qf (w:=((W.alloc (.cells cur 172)).alloc (.cells #[jN,(),(),(),jN] 43)).drew) (show((W.alloc (.cells cur 172)).alloc (.cells #[jN,(),(),(),jN] 43)).heap[W.heap.size+1]?=R (Q06 (A N 0 0) 0 0 0 (A N 0 0))from(Jt W _ _ _ _).2) C);obtain⟨⟨z0,z1,z2,z3,z4⟩,AU⟩:=Qgc s.o;have AV:=Zl s.o;have A0:=qh (Qf (w:=((W.alloc (.cells cur 172)).alloc (.cells #[jN,(),(),(),jN] 43)).drew) (show((W.alloc (.cells cur 172)).alloc (.cells #[jN,(),(),(),jN] 43)).heap[W.heap.size]?=R (.cells cur 172 (0,0))from(Jt W _ _ _ _).1) C);have K:=qh (Q0 (show Bp W W ((W.alloc (.cells cur 172)).alloc (.cells #[jN,(),(),(),jN] 43)).drew by go_grown) C);have A8:=D (∀B,Q1 (λc=>W.heap.size<=c) w1 B->(B,w.heap.size,0,A pc cs cc)/\(B,w.heap.size,1,f)/\(B,w.heap.size,2,H)/\(B,w.heap.size,3,J)/\(B,w.heap.size,4,A px xs cx)) (λB hf=>HK.o B (K.o.trans (hf.below K.o.size (λc G=>G))));have z:=D (((W.alloc (.cells cur 172)).alloc (.cells #[jN,(),(),(),jN] 43)).heap.size<=w1) (C.size);clear E C))
    |((go_at_call 173;(with_reducible refine(Q3s ((W.alloc (.cells #[jN,(),(),(),jN] 43)).alloc (.cells cur 172)).drew _ xs (A7.o _ (show Bp W W ((W.alloc (.cells #[jN,(),(),(),jN] 43)).alloc (.cells cur 172)).drew by go_grown)) A6).mono ?_);rintro e w1 ⟨v1,rfl,E,C⟩;obtain⟨U,P,rfl⟩:=V6 E;have T:=qh E;have s:=qh (Qf (w:=((W.alloc (.cells #[jN,(),(),(),jN] 43)).alloc (.cells cur 172)).drew) (show((W.alloc (.cells #[jN,(),(),(),jN] 43)).alloc (.cells cur 172)).heap[W.heap.size]?=R (Q06 (A N 0 0) 0 0 0 (A N 0 0))from(Jt W _ _ _ _).1) C);obtain⟨⟨z0,z1,z2,z3,z4⟩,AU⟩:=Qgc s.o;have AV:=Zl s.o;have A0:=qh (Qf (w:=((W.alloc (.cells #[jN,(),(),(),jN] 43)).alloc (.cells cur 172)).drew) (show((W.alloc (.cells #[jN,(),(),(),jN] 43)).alloc (.cells cur 172)).heap[W.heap.size+1]?=R (.cells cur 172 (0,0))from(Jt W _ _ _ _).2) C);have K:=qh (Q0 (show Bp W W ((W.alloc (.cells #[jN,(),(),(),jN] 43)).alloc (.cells cur 172)).drew by go_grown) C);have A8:=D (∀B,Q1 (λc=>W.heap.size<=c) w1 B->(B,w.heap.size,0,A pc cs cc)/\(B,w.heap.size,1,f)/\(B,w.heap.size,2,H)/\(B,w.heap.size,3,J)/\(B,w.heap.size,4,A px xs cx)) (λB hf=>HK.o B (K.o.trans (hf.below K.o.size (λc G=>G))));have z:=D (((W.alloc (.cells #[jN,(),(),(),jN] 43)).alloc (.cells cur 172)).heap.size<=w1) (C.size);clear E C))
    |((go_at_call 173;(with_reducible refine(Q3s (W.alloc (.cells cur 172)).drew _ xs (A7.o _ (show Bp W W (W.alloc (.cells cur 172)).drew by go_grown)) A6).mono ?_);rintro e w1 ⟨v1,rfl,E,C⟩;obtain⟨U,P,rfl⟩:=V6 E;have T:=qh E;have A0:=qh (Qf (w:=(W.alloc (.cells cur 172)).drew) (show(W.alloc (.cells cur 172)).heap[W.heap.size]?=R (.cells cur 172 (0,0))from Bg W _) C);have K:=qh (Q0 (show Bp W W (W.alloc (.cells cur 172)).drew by go_grown) C);have A8:=D (∀B,Q1 (λc=>W.heap.size<=c) w1 B->(B,w.heap.size,0,A pc cs cc)/\(B,w.heap.size,1,f)/\(B,w.heap.size,2,H)/\(B,w.heap.size,3,J)/\(B,w.heap.size,4,A px xs cx)) (λB hf=>HK.o B (K.o.trans (hf.below K.o.size (λc G=>G))));have z:=D ((W.alloc (.cells cur 172)).heap.size<=w1) (C.size);clear E C))
    |((go_at_call 173;(with_reducible refine(Q3s (W.alloc (.cells #[jN,(),(),(),jN] 43)).drew _ xs (A7.o _ (show Bp W W (W.alloc (.cells #[jN,(),(),(),jN] 43)).drew by go_grown)) A6).mono ?_);rintro e w1 ⟨v1,rfl,E,C⟩;obtain⟨U,P,rfl⟩:=V6 E;have T:=qh E;have s:=qh (Qf (w:=(W.alloc (.cells #[jN,(),(),(),jN] 43)).drew) (show(W.alloc (.cells #[jN,(),(),(),jN] 43)).heap[W.heap.size]?=R (Q06 (A N 0 0) 0 0 0 (A N 0 0))from Bg W _) C);obtain⟨⟨z0,z1,z2,z3,z4⟩,AU⟩:=Qgc s.o;have AV:=Zl s.o;have K:=qh (Q0 (show Bp W W (W.alloc (.cells #[jN,(),(),(),jN] 43)).drew by go_grown) C);have A8:=D (∀B,Q1 (λc=>W.heap.size<=c) w1 B->(B,w.heap.size,0,A pc cs cc)/\(B,w.heap.size,1,f)/\(B,w.heap.size,2,H)/\(B,w.heap.size,3,J)/\(B,w.heap.size,4,A px xs cx)) (λB hf=>HK.o B (K.o.trans (hf.below K.o.size (λc G=>G))));have z:=D ((W.alloc (.cells #[jN,(),(),(),jN] 43)).heap.size<=w1) (C.size);clear E C))
    |((go_at_call 173;(with_reducible refine(Q3s (W).drew _ xs (A7.o _ (show Bp W W (W).drew by go_grown)) A6).mono ?_);rintro e w1 ⟨v1,rfl,E,C⟩;obtain⟨U,P,rfl⟩:=V6 E;have T:=qh E;have K:=qh (Q0 (show Bp W W (W).drew by go_grown) C);have A8:=D (∀B,Q1 (λc=>W.heap.size<=c) w1 B->(B,w.heap.size,0,A pc cs cc)/\(B,w.heap.size,1,f)/\(B,w.heap.size,2,H)/\(B,w.heap.size,3,J)/\(B,w.heap.size,4,A px xs cx)) (λB hf=>HK.o B (K.o.trans (hf.below K.o.size (λc G=>G))));have z:=D ((W).heap.size<=w1) (C.size);clear E C))
    |fail)
  all_goals(go_wp2;go_meet)
  ·have hs:=z.o
   simp only[World.size_alloc]at hs;exact Q4q T (by show W.heap.size<=(W.alloc _).heap.size;simp) ⟨by omega,.inr (Aj _)⟩ ⟨Aj _,.inl (by show W.heap.size<(W.alloc _).heap.size;simp)⟩ (by omega) ((Q1.refl _ _).alloc _) K (Bg w1 _) (Z3 A0) A2 E
  ·have hs:=z.o
   simp only[World.size_alloc]at hs;have M:=Zx (X:=λc=>c=W+1) (g:=W.heap.size+1) rfl [A (R (W,0)) 0 cs,f,H,J,A U xs P] 0 w1;have t:=Qcv s.o (A (R (W,0)) 0 cs) (A U xs P) f H J;simp only[Yu,Cg,Bj]at M t;exact Q4q T (by show W.heap.size<=((W.alloc _).alloc _).heap.size;simp;omega) ⟨by omega,.inl (by show _<((W.alloc _).alloc _).heap.size;simp)⟩ ⟨Aj _,.inl (by show _<((W.alloc _).alloc _).heap.size;simp;omega)⟩ (by omega) M K t ((M.block _ (Zl A0) (by omega)).trans A0) A2 E
  ·have hs:=z.o
   have h2:=Jt w1 cur #[A (R (w1,0)) 0 cs,f,H,J,A U xs P] 172 43;exact Q4q (X:=w1.heap.size+1) T (Aj _) ⟨by omega,.inr (by omega)⟩ ⟨by omega,.inr (Aj _)⟩ (by omega) (((Q1.refl _ _).alloc _).alloc _) K h2.2 h2.1 A2 E
  ·have hs:=z.o
   have h2:=Jt w1 #[A (R ((World.heap w1).size+1,0)) 0 cs,f,H,J,A U xs P] cur 43 172;exact Q4q T (Aj _) ⟨by omega,.inr (Aj _)⟩ ⟨by omega,.inr (by omega)⟩ (by omega) (((Q1.refl _ _).alloc _).alloc _) K h2.1 h2.2 A2 E
  ·have hs:=z.o
   simp only[World.size_alloc]at hs;have M:=Zx (X:=λc=>c=W) (g:=W) rfl [A (R ((World.heap W).size+1,0)) 0 cs,f,H,J,A U xs P] 0 w1;have t:=Qcv s.o (A (R ((World.heap W).size+1,0)) 0 cs) (A U xs P) f H J;simp only[Yu,Cg,Bj]at M t;exact Q4q T (by show W.heap.size<=((W.alloc _).alloc _).heap.size;simp;omega) ⟨Aj _,.inl (by show _<((W.alloc _).alloc _).heap.size;simp;omega)⟩ ⟨by omega,.inl (by show _<((W.alloc _).alloc _).heap.size;simp)⟩ (by omega) M K t ((M.block _ (Zl A0) (by omega)).trans A0) A2 E
  have hs:=z.o;simp only[World.size_alloc]at hs;have M:=Zx (X:=λc=>c=W) (g:=W) rfl [A (R (w1,0)) 0 cs,f,H,J,A U xs P] 0 w1;have t:=Qcv s.o (A (R (w1,0)) 0 cs) (A U xs P) f H J;simp only[Yu,Cg,Bj]at M t;have BJ:=M.size;exact Q4q T (by show W.heap.size<=(W.alloc _).heap.size;simp) ⟨Aj _,.inl (by show _<(W.alloc _).heap.size;simp)⟩ ⟨by omega,.inr (Aj _)⟩ (by omega) (M.alloc _) K (Z3 t) (by have h:=Bg ((((((w1.setCell (W,0) (A (R (w1,0)) 0 cs)).setCell (W,1) f).setCell (W,2) H).setCell (W,3) J).setCell (W,4) (A U xs P))) (.cells cur 172);simpa using h) A2 E
 obtain⟨X,q,O,p,r,Fx,rfl,BK,AM,AW,AX,AY,AZ,B0,A3⟩:=hcut;have BL:=qh AM;have HG:=qh AX;have BM:=qh AY;have A4:=qh B0;have BN:=qh AZ;have BO:=qh AW;have BP:=qh (Q0 AT A3);have CG:=qh A3;have AC:=qh A3.size;have BQ:=Zl AM;have BR:=qh (Qf AL A3);have BS:=qh (Qf BG A3);obtain⟨⟨a0,-,-,-,-⟩,-⟩:=Yf BR;obtain⟨ia,BT,BU,BV,BW⟩:=Ck Q7f;clear AX AY AZ B0 AW A3 AM k0 k1 k2 k3 k4;go_wp2
 go_loopw [21] (λi wr=>∃(j m:Nat) (q:Option Cp) (O:Nat),j<=cs/\i=I Z j/\Hd (wr.heap[X]?=R (Q06 (A q m O) f H J (A p xs r)))/\Hd (Q91 (.slice Q4) (λb=>W.heap.size<=b/\b≠X/\b∉Fx) wr [A q m O] (cs.take j))/\Hd (Q1 (λc=>W.heap.size<=c/\c∉Fx) wc wr)) (λi _=>cs.length-(By i).toNat);case atStart=>exact⟨0,0,_,_,Ak _,rfl,BL.o,HG.o,Q1.refl _ _⟩
 obtain⟨j,m,q,O,hj,rfl,A9,AD,HF⟩:=hrel;have BJ:=HF.o.size;have B1:=D (w,wr) (BP.o.trans (HF.o.below (by have:=AC.o;omega) (λc G=>by omega)));have a0:wr.cell? (w,0)=R (A pc cs cc):=(HF.o.cell (b:=w) (by have:=AC.o;omega) (by omega) 0).trans a0;obtain⟨⟨x0,-,-,-,-⟩,-⟩:=Qgc A9;by_cases AN:j<cs
 ·obtain⟨b1,o1,rfl,hA⟩:=Rd.elem (HN.o.kb B1) j AN
  have B2:=qh (HZ.o cs[j] (As AN));have B3:=D (cs.take (j+1)=cs.take j++ [cs[j]]) (An AN);generalize cs[j]=x at *
  obtain⟨k,l,v,d,ws⟩:=x;simp only[Ty.sz,Bj]at hA;obtain⟨pd,cd,pw,cw,⟨c0,P,c2,c3,c4⟩,u,⟨-,-,hd⟩,⟨-,-,hw⟩⟩:=hA.agent;have B4:=qh u;have BX:=D (∀V,Bp wr wr V->Rd (.slice .int) V [A pd d cd] d) (λV C=>hd.kb C);have BY:=D (∀V,Bp wr wr V->Rd (.slice Q5) V [A pw ws cw] ws) (λV C=>hw.kb C);have B5:d.length<=100000000:=B2.o.1;have B6:ws.length<=100000000:=B2.o.2;clear hA hd hw u;obtain⟨L,hL⟩:∃L:List Qb,L=cs.take j:=⟨_,rfl⟩;rw[<-hL]at AD B3;have BZ:=D (L.length+1<=1000000000) (by rw[hL,Cf];omega);obtain⟨m',C0,C1⟩:∃m',m'=m/\m'=L.length:=by obtain⟨p9,c9,h9,_⟩:=(let ⟨F,o,_⟩:=AD.o;o.gen:∃(p:Option Cp) (r:Nat),A q m O=A p L r/\_);simp only[Ci]at h9;exact⟨m,rfl,h9.2.1⟩
  subst C0;subst C1;clear hL;have CH:(j:Int)<cs:=by omega
  have CI:(0:Int)<=j:=by omega
  have CJ:X<wr:=by omega
  go_upto_region 5 with fail
  refine Qp λS AE=> ?_;have AF:=D (wr,S) (by rw[AE];go_grown);have CK:S.heap.size=wr+1:=by rw[AE];simp
  have AG:S.heap[wr.heap.size]?=R (.cells #[k,l,v,A pd d cd,A pw ws cw] 172):=by rw[AE];exact Bg wr _
  have C2:=qh AG;have CL:=qh (Qf A9 AF);clear AE c0 P c2 c3 c4 a0 x0;have AA:=D (∀V,Bp S S V->V.heap[wr.heap.size]?=R (.cells #[k,l,v,A pd d cd,A pw ws cw] 172)) (λV C=>Qf C2 C);have A5:=D (Bp S S S.drew) ((Ai _ _).drew);have B7:=D (∀V,Bp S S V->Rd (.slice .int) V [A pd d cd] d) (λV C=>BX.o V (Q0 AF C));have B8:=D (∀V,Bp S S V->Rd (.slice Q5) V [A pw ws cw] ws) (λV C=>BY.o V (Q0 AF C));obtain⟨⟨k0,k1,k2,k3,k4⟩,kf⟩:=Yf AG;have CM:=Zl AG;have C3:=D (∀b:Nat,wr<=b->(W<=b/\b≠X/\b∉Fx)) (λb C=>⟨by have:=AC.o;omega,by omega,λhm=>by have:=A4.o b hm;omega⟩);clear AG
  go_region_with
   (first
    |((go_at_call 209;(with_reducible refine(Qcx w1 _ ws (B8.o _ AH) B6).mono ?_);rintro e wf ⟨v2,rfl,E,C⟩;obtain⟨pb,cb,rfl⟩:=V6 E;have B9:=qh (Qy7.agentA B4 T E C AH.o.size);have A1:=qh (Q0 AH C);obtain⟨⟨s0,s1,s2,s3,s4⟩,sf⟩:=Yf (AA.o _ A1);clear E C))
    |((go_at_call 175;(with_reducible refine(Q0e w2 _ d (B7.o _ AI) B5).mono ?_);rintro e wf ⟨v2,rfl,E,C⟩;obtain⟨pa,ca,rfl⟩:=V6 E;have B9:=qh (Qy7.agentB B4 E T C AI.o.size);have A1:=qh (Q0 AI C);obtain⟨⟨s0,s1,s2,s3,s4⟩,sf⟩:=Yf (AA.o _ A1);clear E C))
    |((go_at_call 175;(with_reducible refine(Q0e _ _ d (B7.o _ A5) B5).mono ?_);rintro e w1 ⟨v1,rfl,E,C⟩;obtain⟨pa,ca,rfl⟩:=V6 E;have T:=qh (E.lo (show S.heap.size<=_ from A5.o.size));have AH:=qh (Q0 A5 C);obtain⟨⟨r0,r1,r2,r3,r4⟩,rf⟩:=Yf (AA.o _ AH);clear E C))
    |((go_at_call 209;(with_reducible refine(Qcx _ _ ws (B8.o _ A5) B6).mono ?_);rintro e w2 ⟨v1,rfl,E,C⟩;obtain⟨pb,cb,rfl⟩:=V6 E;have T:=qh (E.lo (show S.heap.size<=_ from A5.o.size));have AI:=qh (Q0 A5 C);obtain⟨⟨r0,r1,r2,r3,r4⟩,rf⟩:=Yf (AA.o _ AI);clear E C))
    |fail)
  all_goals
   clear k0 k1 k2 k3 k4 kf r0 r1 r2 r3 r4 rf;have BA:=Qwy (AA.o _ A1) (A pa d ca) (A pb ws cb);have BB:Q1 (λc=>c=wr) wf ((wf.setCell (wr,3) (A pa d ca)).setCell (wr,4) (A pb ws cb)):=Q23 (Q23 (Q1.refl _ _));clear s0 s1 s2 s3 s4 sf;go_upto_region 6 with fail
   refine Qp λY AO=> ?_;have C4:=D (Y,oC wr.heap.size #[k,l,v,A pa d ca,A pb ws cb] 172) (by rw[AO];exact BA);have AP:=D (Q1 (λc=>c=wr) wf Y) (by rw[AO];exact BB);have C5:=qh (B9.o.frame AP (λi u=>by omega));have AJ:=D (wr,Y) ((Q0 AF A1).trans (AP.o.below (by have:=A1.o.size;omega) (λc G=>by omega)));have AQ:=D (Y.heap[X]?=R (Q06 (A q L O) f H J (A p xs r))) (Qf A9 AJ);have C6:=qh AD.o;have BC:=D (wr.heap.size<=Y/\S.heap.size<=Y) (⟨AJ.o.size,by have:=A1.o.size;have:=AP.o.size;omega⟩);clear AO BA BB;obtain⟨⟨m0,m1,m2,m3,m4⟩,-⟩:=Yf C4;obtain⟨⟨x0,-,-,-,-⟩,-⟩:=Qgc AQ;have CN:X<Y:=Zl AQ;go_wp2_with(at_builtin;refine Q8u _ rfl (.tmp 34) (.tmp 36) 39 rfl (e:=Q4) 172 ia _ 72 underlying39 BT BU BV BW rfl (by decide) wr (v:=A q L O) (xs:=L) (y:=(k,l,v,d,ws)) (vs:=[k,l,v,A pa d ca,A pb ws cb]) Y 1 rfl rfl C6 C3 (AJ.o.alloc BC.o.1 _) ((C5.o.lo (by omega)).kept (Ai _ _|>.alloc (Aj _) _)) (Q1n (Q6 (Bg Y _) rfl) (Q6 (Bg Y _) rfl) (Q6 (Bg Y _) rfl) (Q6 (Bg Y _) rfl) (Q6 (Bg Y _) rfl)) Qwp BZ ?_;intro p3 c3 w3 BD AR;have C7:=qh BD;have AK:=D (w3.heap[X]?=R (Q06 (A q L O) f H J (A p xs r))) ((AR.block _ (by rw[Be];omega) (λhh=>hh.1.2.1 rfl)).trans (Z3 AQ));have x3:=(Qgc AK).1.1;have CO:=(Qgc AK).2;have CP:=Zl AK;have C8:=D (Q1 (λc=>W.heap.size<=c/\c∉Fx) wr w3) ((Ay (AJ.o.alloc BC.o.1 _)).trans (AR.mono λc G=>⟨G.1.1,G.1.2.2⟩));clear BD AR)
   go_roundw;case rel=>exact⟨j+1,L.length+1,p3,c3,by omega,by go_num,(show _=_ from Qpn AK),(show Q91 _ _ _ _ _ by rw[B3.o];exact C7.o.frame (X:=λc=>c=X) (Q23 (Q1.refl _ _)) (λi u hp=>hp.2.1 u)),(show Q1 _ _ _ from(HF.o.trans C8).setCell (show W.heap.size<=X/\X∉Fx from⟨BK,BO.o⟩) _)⟩
   simp[By];omega
 have C9:cs<=j:=by omega
 have CA:=D (cs.take j=cs) (Ao C9);have hR:wr.heap[w.heap.size+1]?=R (Q06 (A N 0 0) 0 0 0 (A N 0 0)):=(HF.o.block _ (by have:=AC.o;have:=AB.o;omega) (λh=>by have:=AB.o;have:=h.1;omega)).trans BS;have CB:=qh hR;obtain⟨⟨r0,r1,r2,r3,r4⟩,CQ⟩:=Qgc hR;obtain⟨⟨x0,x1,x2,x3,x4⟩,-⟩:=Qgc A9;have BQ:=Zl A9;clear hR;go_wp2_with fail
 have t:=Qcv CB (A q m O) (A p xs r) f H J;have M:=Zx (X:=λc=>c=w+1) (g:=w.heap.size+1) rfl [A q m O,f,H,J,A p xs r] 0 wr;simp only[Yu,Cg,Bj]at t M;obtain⟨⟨t0,t1,t2,t3,t4⟩,-⟩:=Qgc t;refine Ce (v:=.agg #[A q m O,f,H,J,A p xs r]) (by simp[results,results172,go_sem,t0,t1,t2,t3,t4]) rfl ?_;have hN:=AD.o;rw[CA.o]at hN;have CR:=AB.o;obtain⟨Fc,oc,nc,bc⟩:=hN.frame M (λi u hp=>by have:=hp.1;omega);have CC:=BM.o.frame HF (λc G=>⟨(A4.o c G).2,λe=>e.2 G⟩);have ox:=CC.frame M (λc G=>⟨by have:=(A4.o c G).2;omega,λe=>by have:=(A4.o c G).1;omega⟩);have CS:=M.size;obtain⟨h1,h2,h3⟩:=HI.o;refine⟨[A q m O,f,H,J,A p xs r],rfl,⟨Fc++Fx,⟨[_],_,Fc,Fx,rfl,rfl,oc,[_],_,[],Fx,rfl,rfl,⟨rfl,h1,rfl⟩,[_,_],_,[],Fx,rfl,rfl,⟨[_],[_],[],[],rfl,rfl,⟨rfl,h2,rfl⟩,⟨rfl,h3,rfl⟩⟩,ox⟩, ?_,λc G=> ?_⟩, ?_⟩
 ·rw[Ba]
  refine⟨nc,BN.o,λa ha c G e=> ?_⟩;subst e;exact(bc a ha).1.2.2 G
 ·rcases At0.1 G with G|G
  ·exact⟨by have:=(bc c G).1.1;omega,(bc c G).2⟩
  exact⟨by have:=(A4.o c G).1;omega,by have:=(A4.o c G).2;omega⟩
 exact B1.o.trans (M.below (by omega) (λi u=>by omega))
theorem Qjm(w vs)(cs:List Qb)(f G H:Int)(xs:List Wd)(K:List Qxb)(O:Int)(h:Rd Qv w vs ((cs,f,(G,H),xs),K,O))(r:cs.length<=1000000)(hz:∀x∈cs,(aD x).length<=100000000/\(aW x).length<=100000000)(AW:xs.length<=100000000)(CO:K.length<=1000000)(AX:∀k∈K,(wX k).length<=100000000/\(wL k).length<=100000000/\(wC k).length<=100000000):
  Bv prog 132 #[.agg vs.toArray] w (Q2w Qv w ((cs,f,(G,H),xs),K,O)):=by
 obtain⟨z,cc,px,cx,pk,ck,rfl,⟨i0,i1,i2,i3⟩,⟨BI,hr⟩,⟨BJ,hx⟩,⟨BK,hk⟩⟩:=h.poolV;have HZ:=qh hz;have BL:=qh AX;have HM:=qh (Qez hr i0 i1 i2 hx);have BM:=qh hk;have HI:=qh i3;unfold Bu at BI BJ BK;clear h hr hz hx hk AX i0 i1 i2 i3;go_enter func132,ntmps132;go_upto_region 1 with fail
 refine Qp λW hW=> ?_;have AY:=D (w,W) (by rw[hW];go_grown);have hh:=Jt w #[A z cs cc,f,G,H,A px xs cx,A pk K ck,O] #[jN,(),(),(),jN,jN,()] 46 46;rw[<-hW]at hh;have AE:=D (W.heap[w.heap.size]?=R (Jf (A z cs cc) f G H (A px xs cx) (A pk K ck) O)) (hh.1);have BN:=D (W.heap[w.heap.size+1]?=R (Jf (A N 0 0) 0 0 0 (A N 0 0) (A N 0 0) 0)) (hh.2);obtain⟨⟨k0,k1,k2,k3,k4,k5,k6⟩,-⟩:=Q2z AE;have A1:=D (W.heap.size=w+2) (by rw[hW];simp);have CP:w.heap.size<W:=by have:=A1.o;omega
 have HK:=D (∀E,Bp W W E->(E,w.heap.size,0,A z cs cc)/\(E,w.heap.size,1,f)/\(E,w.heap.size,2,G)/\(E,w.heap.size,3,H)/\(E,w.heap.size,4,A px xs cx)/\(E,w.heap.size,6,O)) (λE C=>by obtain⟨⟨k0,k1,k2,k3,k4,k5,k6⟩,-⟩:=Q2z (Qf AE C);exact⟨k0,k1,k2,k3,k4,k6⟩);have AZ:=D (∀E,Bp W W E->Rd Qq E [A z cs cc,f,G,H,A px xs cx] (cs,f,(G,H),xs)) (λE C=>HM.o.kb (Q0 AY C));have BO:=qh (Aj W);clear hW hh;go_cut [3] (λx wz=>∃(X:Nat) (q:Option Cp) (S:Nat) (p:Option Cp) (P:Nat) (Fm:List Nat),x=.pointer (R (X,0))/\W<=X/\wz.heap[X]?=R (Jf (A q cs S) f G H (A p xs P) (A N 0 0) O)/\X∉Fm/\Ow Qq wz [A q cs S,f,G,H,A p xs P] (cs,f,(G,H),xs) Fm/\Fm.Nodup/\(∀b∈Fm,W<=b/\b<wz.heap.size)/\(W,wz))
 case first=>
  go_region_held3(λE=>(E,w.heap.size,0,A z cs cc)/\(E,w.heap.size,1,f)/\(E,w.heap.size,2,G)/\(E,w.heap.size,3,H)/\(E,w.heap.size,4,A px xs cx)/\(E,w.heap.size,6,O))
   (first|((with_reducible refine B0.o _ ?_);(repeat(first|with_reducible exact Q1.refl _ _|with_reducible apply Q1.drew|with_reducible apply Q1.alloc|(with_reducible refine Q1.setCell ?_ BO _))))|((refine HK.o _ ?_);go_grown))
   (first
    |((go_at_call 172;(with_reducible refine(Qeg (W.alloc (.cells #[jN,(),(),(),jN,jN,()] 46)).drew cs f G H xs (AZ.o _ (by go_grown)) r HZ AW).mono ?_);rintro e w1 ⟨v1,rfl,r,C⟩;obtain⟨q,S,p,P,rfl⟩:=r.memShape;have AF:=qh r;have AG:=qh (Qf (w:=(W.alloc (.cells #[jN,(),(),(),jN,jN,()] 46)).drew) (show(W.alloc (.cells #[jN,(),(),(),jN,jN,()] 46)).heap[W.heap.size]?=R (Jf (A N 0 0) 0 0 0 (A N 0 0) (A N 0 0) 0)from Bg W _) C);obtain⟨⟨z0,z1,z2,z3,z4,z5,z6⟩,BP⟩:=Q2z AG;have CQ:=Zl AG;have t:=D (W,w1) (Q0 (by go_grown) C);have B0:=D (∀E,Q1 (λc=>W.heap.size<=c) w1 E->(E,w.heap.size,0,A z cs cc)/\(E,w.heap.size,1,f)/\(E,w.heap.size,2,G)/\(E,w.heap.size,3,H)/\(E,w.heap.size,4,A px xs cx)/\(E,w.heap.size,6,O)) (λE hf=>HK.o E (t.o.trans (hf.below t.o.size (λc J=>J))));clear r C))
    |((go_at_call 172;(with_reducible refine(Qeg W.drew cs f G H xs (AZ.o _ (by go_grown)) r HZ AW).mono ?_);rintro e w1 ⟨v1,rfl,r,C⟩;obtain⟨q,S,p,P,rfl⟩:=r.memShape;have AF:=qh r;have t:=D (W,w1) (Q0 (by go_grown) C);have B0:=D (∀E,Q1 (λc=>W.heap.size<=c) w1 E->(E,w.heap.size,0,A z cs cc)/\(E,w.heap.size,1,f)/\(E,w.heap.size,2,G)/\(E,w.heap.size,3,H)/\(E,w.heap.size,4,A px xs cx)/\(E,w.heap.size,6,O)) (λE hf=>HK.o E (t.o.trans (hf.below t.o.size (λc J=>J))));clear r C))
    |fail)
  all_goals(go_wp2;go_meet)
  ·obtain⟨F,oF,nF,bF⟩:=AF.o
   have hs:=t.o.size;exact⟨w1,q,S,p,P,F,rfl,hs,Bg w1 _,λh=>by have:=(bF _ h).2;omega,oF.kept (λb C=>Az _ _ _ (bF b C).2),nF,λb C=>⟨(bF b C).1,by have:=(bF b C).2;rw[Be];omega⟩,t.o.alloc hs _⟩
  have s:=Zx (X:=λc=>c=W) (g:=W) rfl [A q cs S,f,G,H,A p xs P,jN,O] 0 w1;have A2:=Q68 AG (A q cs S) (A p xs P) (A N 0 0) f G H O;simp only[Yu,Cg,Bj]at s A2;have CR:=s.size;have AH:=t.o.size;obtain⟨F,oF,nF,bF⟩:=AF.o;have A3:∀b∈F,W.heap.size+1<=b/\b<w1.heap.size:=λb C=>⟨by have h1:=(bF b C).1;have h2:(W.alloc (.cells #[jN,(),(),(),jN,jN,()] 46)).drew.heap.size=W+1:=Be _ _;omega,(bF b C).2⟩;exact⟨W,q,S,p,P,F,rfl,Aj _,A2,λh=>by have:=(A3 _ h).1;omega,oF.frame s (λb C=>⟨(A3 b C).2,by have:=(A3 b C).1;omega⟩),nF,λb C=>⟨by have:=(A3 b C).1;omega,by have:=(A3 b C).2;omega⟩,t.o.trans (s.below AH (λi M=>by omega))⟩
 obtain⟨X,q,S,p,P,Fm,rfl,hX,AI,A5,B1,B2,B3,A0⟩:=hcut;have BQ:=qh AI;have BR:=qh (Cj A5 (Cj B1 (Cj B2 B3)));have CS:=qh A0;have A6:=qh A0.size;have HR:=D (wc.heap[w.heap.size+1]?=R (Jf (A N 0 0) 0 0 0 (A N 0 0) (A N 0 0) 0)) (Qf BN A0);have B4:=D (w,wc) (Q0 AY A0);have BS:=qh (Qf AE A0);obtain⟨⟨-,-,-,-,-,a5,-⟩,-⟩:=Q2z BS;have CT:X<wc:=Zl AI;obtain⟨iw,BT,BU,BV,BW⟩:=Ck Qdj;clear AI A5 B1 B2 B3 A0 k0 k1 k2 k3 k4 k5 k6;have BX:=Ac wc _ a5;simp only at BX;go_wp2
 go_loopw [15] (λi wr=>∃(j n:Nat) (U:Option Cp) (Y:Nat),j<=K/\i=I Z j/\Hd (wr.heap[X]?=R (Jf (A q cs S) f G H (A p xs P) (A U n Y) O))/\Hd (Qy7 (.slice Qh) wc wr [A U n Y] (K.take j))/\Hd (Q1 (λc=>c=X\/wc<=c) wc wr)) (λi _=>K.length-(By i).toNat);case atStart=>exact⟨0,0,N,0,Ak _,rfl,BQ.o,Qy7.nil _ _,Q1.refl _ _⟩
 obtain⟨j,n,U,Y,hj,rfl,B5,HN,HF⟩:=hrel;have BY:=qh (Q6u B4 HF (by have:=A1.o;have:=A6.o;omega) (by have:=A1.o;have:=A6.o;omega));have AH:=HF.o.size;have CU:X<wr:=by omega
 obtain⟨⟨x0,x1,x2,x3,x4,x5,x6⟩,BP⟩:=Q2z B5;by_cases AJ:j<K
 ·obtain⟨b1,o1,rfl,hA⟩:=Rd.elem (BM.o.kept BY) j AJ
  have AK:=qh (BL.o K[j] (As AJ));have B6:=D (K.take (j+1)=K.take j++ [K[j]]) (An AJ);generalize K[j]=x at *
  obtain⟨ph,vi,ys,d,l⟩:=x;simp only[Ty.sz,Bj]at hA;obtain⟨py,cy,pl,cl,AL,AM,⟨e0,e1,e2,e3,e4⟩,⟨ip,iv⟩,⟨-,-,B7⟩,⟨-,-,B8⟩,⟨-,-,B9⟩⟩:=At.worker hA;have BA:=qh (Cj ip iv);have HY:=D (∀V,Bp wr wr V->Rd (.slice Q5) V [A py ys cy] ys) (λV C=>B7.kb C);have HL:=D (∀V,Bp wr wr V->Rd (.slice Z7) V [A pl d cl] d) (λV C=>B8.kb C);have HC:=D (∀V,Bp wr wr V->Rd (.slice .int) V [A AL l AM] l) (λV C=>B9.kb C);have BZ:ys.length<=100000000:=AK.o.1;have C0:d.length<=100000000:=AK.o.2.1;have C1:l.length<=100000000:=AK.o.2.2;clear hA B7 B8 B9 ip iv x0 x1 x2 x3 x4 x5 x6;obtain⟨L,hL⟩:∃L:List Qxb,L=K.take j:=⟨_,rfl⟩;rw[<-hL]at HN B6;have C2:=D (L.length+1<=1000000000) (by rw[hL,Cf];omega);obtain⟨n',C3,C4⟩:∃n',n'=n/\n'=L.length:=by obtain⟨p9,c9,h9,_⟩:=(let ⟨F,o,_⟩:=HN.o;o.gen:∃(p:Option Cp) (P:Nat),A U n Y=A p L P/\_);simp only[Ci]at h9;exact⟨n,rfl,h9.2.1⟩
  subst C3;subst C4;clear hL;have CV:(0:Int)<=j:=by omega
  have CW:(j:Int)<K:=by omega
  have BB:=Ac wr _ e0;simp only at BB;go_upto_region 5 with fail
  refine Qp λu A7=> ?_;have A8:=D (wr,u) (by rw[A7];go_grown);have A9:u.heap[wr.heap.size]?=R (Q37 ph vi (A py ys cy) (A pl d cl) (A AL l AM)):=by rw[A7];exact Bg wr _
  have C5:=qh A9;have C6:=D (u.heap.size=wr+1) (by rw[A7];simp);clear A7 e0 e1 e2 e3 e4 BB;have AA:=D (∀V,Bp u u V->V.heap[wr.heap.size]?=R (Q37 ph vi (A py ys cy) (A pl d cl) (A AL l AM))) (λV C=>Qf C5 C);have AN:=D (Bp u u u.drew) ((Ai _ _).drew);obtain⟨⟨k0,k1,k2,k3,k4⟩,kf⟩:=Qu4 A9;have CX:=Zl A9;clear A9
  go_region_with(first
    |((go_at_call 175;(with_reducible refine(Qhq w2 _ l (HC.o _ (Q0 A8 AO)) C1).mono ?_);rintro e w3 ⟨v3,rfl,m,C⟩;obtain⟨p3,c3,rfl,-,-⟩:=m.form;have BC:=qh m;have AP:=qh C;have AQ:=qh (Q0 AO C);obtain⟨⟨t0,t1,t2,t3,t4⟩,tf⟩:=Qu4 (AA.o _ AQ);clear m C))
    |((go_at_call 174;(with_reducible refine(Qj2 w1 _ d (HL.o _ (Q0 A8 AB)) C0).mono ?_);rintro e w2 ⟨v2,rfl,m,C⟩;obtain⟨p2,c2,rfl,-,-⟩:=m.form;have AR:=qh m;have BD:=qh C;have AO:=qh (Q0 AB C);obtain⟨⟨s0,s1,s2,s3,s4⟩,sf⟩:=Qu4 (AA.o _ AO);clear m C))
    |((go_at_call 173;go_loud((with_reducible refine(Qjv _ _ ys (HY.o _ (Q0 A8 AN)) BZ).mono ?_);rintro e w1 ⟨v1,rfl,m,C⟩;obtain⟨p1,c1,rfl,-,-⟩:=m.form;have AC:=qh (m.lo (show u.heap.size<=_ from AN.o.size));have AB:=qh (Q0 AN C);obtain⟨⟨r0,r1,r2,r3,r4⟩,rf⟩:=Qu4 (AA.o _ AB);clear m C)))
    |fail)
  all_goals
   clear k0 k1 k2 k3 k4 kf r0 r1 r2 r3 r4 rf s0 s1 s2 s3 s4 sf;have BE:=Qve (Qpy (Qo0 (AA.o _ AQ) (A p1 ys c1)) (A p2 d c2)) (A p3 l c3);have BF:Q1 (λc=>c=wr) w3 (((w3.setCell (wr,2) (A p1 ys c1)).setCell (wr,3) (A p2 d c2)).setCell (wr,4) (A p3 l c3)):=Q23 (Q23 (Q23 (Q1.refl _ _)));clear t0 t1 t2 t3 t4 tf;go_upto_region 6 with fail
   refine Qp λT AS=> ?_;have C7:=D (T.heap[wr.heap.size]?=R (Q37 ph vi (A p1 ys c1) (A p2 d c2) (A p3 l c3))) (by rw[AS];exact BE);have A4:=D (Q1 (λc=>c=wr) w3 T) (by rw[AS];exact BF);clear AS BE BF;have C8:=C6.o;have C9:=AB.o.size;have CA:=BD.o.size;have CB:=AP.o.size;have CC:=A4.o.size;have AT:=D (wr,T) ((Q0 A8 AQ).trans (A4.o.below (by omega) (λc J=>by omega)));have CD:=qh (((((AC.o.frame (Ay BD) (λi M e=>by have:=(AC.o.block i M).2;omega)).frame (Ay AP) (λi M e=>by have:=(AC.o.block i M).2;omega)).frame A4 (λi M e=>by have:=(AC.o.block i M).1;omega))).lo (show wr.heap.size<=_ by omega));have CE:=qh ((((AR.o.frame (Ay AP) (λi M e=>by have:=(AR.o.block i M).2;omega)).frame A4 (λi M e=>by have:=(AR.o.block i M).1;omega))).lo (show wr.heap.size<=_ by omega));have CF:=qh ((BC.o.frame A4 (λi M e=>by have:=(BC.o.block i M).1;omega)).lo (show wr.heap.size<=_ by omega));have CG:=qh (Qy7.worker BA.o.1 BA.o.2 CD CE CF);have AU:=D (T.heap[X]?=R (Jf (A q cs S) f G H (A p xs P) (A U L Y) O)) (Qf B5 AT);have BG:=D (wr.heap.size<=T) (by omega);have CY:X<T:=Zl AU;obtain⟨⟨m0,m1,m2,m3,m4⟩,-⟩:=Qu4 C7;obtain⟨⟨-,-,-,-,-,x5,-⟩,-⟩:=Q2z AU;clear C8 C9 CA CB CC;go_wp2_with(at_builtin;refine Q53 _ rfl (.tmp 32) (.tmp 34) 44 rfl (e:=Qh) 116 iw _ 88 underlying44 BT BU BV BW rfl (by decide) (B:=wc) wr (v:=A U L Y) (xs:=L) (y:=(ph,vi,ys,d,l)) (vs:=[ph,vi,A p1 ys c1,A p2 d c2,A p3 l c3]) T 1 rfl rfl HN AH (AT.o.alloc BG _) (CG.o.kept (Ai _ _|>.alloc (Aj _) _)) (Q1n (Q6 (Bg T _) rfl) (Q6 (Bg T _) rfl) (Q6 (Bg T _) rfl) (Q6 (Bg T _) rfl) (Q6 (Bg T _) rfl)) Qw4 C2 ?_;intro p4 c4 w4 BH AV;have CH:=qh BH;have CI:=qh (HF.o.trans ((Ay (AT.o.alloc BG _)).trans (AV.mono λi M=> .inr M.1)));have AD:=D (w4.heap[X]?=R (Jf (A q cs S) f G H (A p xs P) (A U L Y) O)) ((AV.block X (by rw[Be];omega) (λhh=>by have:=hh.1;omega)).trans (Z3 AU));have CZ:=(Q2z AD).2;have D0:=(Q2z AD).1.2.2.2.2.2.1;have D1:=Zl AD;clear BH AV)
   go_roundw;case rel=>exact⟨j+1,L.length+1,p4,c4,by omega,by go_num,Qlh AD,(show Qy7 _ _ _ _ _ by rw[B6.o];exact CH.o.frame ((Q1.refl (λc=>c=X) w4).setCell rfl _) (λi M=>by omega)),(show Q1 _ _ _ from CI.o.setCell (.inl rfl) _)⟩
   simp[By];omega
 have CJ:K<=j:=by omega
 have CK:=D (K.take j=K) (Ao CJ);have hR:wr.heap[w.heap.size+1]?=R (Jf (A N 0 0) 0 0 0 (A N 0 0) (A N 0 0) 0):=by have:=A1.o;have:=A6.o;rw[HF.o.block _ (by omega) (by rintro(e|e)<;>omega)];exact HR.o
 have CL:=qh hR;obtain⟨⟨r0,r1,r2,r3,r4,r5,r6⟩,D2⟩:=Q2z hR;have D3:=Zl hR;clear hR;go_wp2_with fail
 have A2:=Q68 CL (A q cs S) (A p xs P) (A U n Y) f G H O;have s:=Zx (X:=λc=>c=w+1) (g:=w.heap.size+1) rfl [A q cs S,f,G,H,A p xs P,A U n Y,O] 0 wr;simp only[Yu,Cg,Bj]at A2 s;obtain⟨⟨t0,t1,t2,t3,t4,t5,t6⟩,-⟩:=Q2z A2;refine Ce (v:=.agg #[A q cs S,f,G,H,A p xs P,A U n Y,O]) (by simp[results,results132,go_sem,t0,t1,t2,t3,t4,t5,t6]) rfl ?_;have D4:=A1.o;have D5:=A6.o;obtain⟨Fc,oc,nc,bc⟩:=HN.o.frame s (λi M=>by omega);rw[CK.o]at oc;obtain⟨A5,CM,nm,bm⟩:=BR.o;have CN:=CM.frame HF (λc J=>⟨(bm c J).2,by
  rintro(e|e)
  ·exact A5 (e▸J)
  have:=(bm c J).2;omega⟩)
 have D6:=s.size;have om:=CN.frame s (λc J=>⟨by have:=(bm c J).2;omega,λe=>by have:=(bm c J).1;omega⟩);refine⟨[A q cs S,f,G,H,A p xs P,A U n Y,O],rfl,⟨Fm++Fc,⟨[_,_,_,_,_],[_,_],Fm,Fc,rfl,rfl,om,[_],[_],Fc,[],rfl,by simp,oc,⟨rfl,HI.o,rfl⟩⟩, ?_,λc J=> ?_⟩, ?_⟩
 ·rw[Ba]
  refine⟨nm,nc,λa ha c J e=> ?_⟩;have h4:=(bc c J).1;have h5:=(bm a ha).2;omega
 ·rcases At0.1 J with J|J
  ·exact⟨by have:=(bm c J).1;omega,by have:=(bm c J).2;omega⟩
  exact⟨by have:=(bc c J).1;omega,(bc c J).2⟩
 exact B4.o.trans ((HF.o.below (by omega) (λi M=>by rcases M with e|e<;>omega)).trans (s.below (by omega) (λi M=>by omega)))
def Q52{p}(h:Q0y p):Q0p p:=by
 obtain⟨B,⟨C,E,F⟩,G⟩:=Qd2 h;exact⟨B.mono (by omega),C,by rw[E];simp,F,λv H=>by have:=G v H;omega⟩
def Q7j{w}(vs)(p:Ye)(h:Rd Qv w vs p)(B:Q0p p):Bv prog 132 #[.agg vs.toArray] w (Q2w Qv w p):=by
 obtain⟨⟨cs,f,⟨E,F⟩,xs⟩,C,G⟩:=p;have K:cs.length<=1500:=B.n;have L:xs.length<=1000000:=B.x;have M:C.length<=4:=B.w;exact Qjm w vs cs f E F xs C G h (by omega) (λx H=>by have:=B.c x H;omega) (by omega) (by omega) (λv J=>by have:=B.wk v J;omega)
def Qub(bk:List Qy0)(p:Ye)(k:Nat)(w:Bh)(e:Ending)(w':Bh):Prop:=
 ∃(q:Option Cp) (n c:Nat) (f t a:Int) (q':Option Cp) (n' c':Nat) (q2:Option Cp) (n2 c2:Nat) (ac:Int),e=.returned (.tuple #[.agg #[A q n c,f,t,a,A q' n' c',A q2 n2 c2,ac],I Z (Yo bk p k).1])/\
  ((Yo bk p k).1=0->Qy7 Qv w w' [A q n c,f,t,a,A q' n' c',A q2 n2 c2,ac] (Yo bk p k).2)/\(w,w')
theorem Qsh{w}(p0 s)(bk:List Qy0)(A9:Rd (.slice Jl) w [A p0 bk s] bk)(AO:bk<=Bu)(AA:∀n∈bk,Qbs n)(a:∀n∈bk,Yd n=Bn){b o}(p:Ye)(k:Nat)(h:At Qv w b o p)(hk:k<(pW p))(U:Q0y p):
  Bv prog 135 #[.pointer (R ⟨b,o,N⟩),A p0 bk s,k] w (Qub bk p k w):=by
 obtain⟨us,AB,J,AC⟩:=h;have AP:=qh AC;have AQ:=qh A9;have B9:=qh AA;have AR:=qh a;have AS:=qh U;have AT:=qh AO;have V:=qh (Qf9 U);have AU:=qh (Q52 U);have t:=D (Q0p (Yo bk p k).2/\(mC (pM (Yo bk p k).2)).length=(mC (pM p))/\(pW (Yo bk p k).2).length=(pW p)) (Qnd U (λn E i=>by have:=(Yl (a n E)).2.2.1 i;omega) (λn E=>by have:=(Yl (a n E)).1;omega));have u:=D (mC (pM (Yo bk p k).2)≠ []/\pW (Yo bk p k).2≠ []) (by obtain⟨-,e1,e2⟩:=t.o;obtain⟨n1,n2⟩:=V.o;have l1:=Bc.2 n1;have l2:=Bc.2 n2;exact⟨λe=>by rw[e]at e1;simp at e1;omega,λe=>by rw[e]at e2;simp at e2;omega⟩);obtain⟨v0,v1,v2,v3,v4,v5,v6,rfl⟩:=Qda AB
 obtain⟨d,x,y,z,d4,d5,d6⟩:(w,b,o,v0)/\(w,b,o+1,v1)/\(w,b,o+2,v2)/\(w,b,o+3,v3)/\(w,b,o+4,v4)/\(w,b,o+5,v5)/\(w,b,o+6,v6):=
  ⟨J 0 (by simp),J 1 (by simp),J 2 (by simp),J 3 (by simp),J 4 (by simp),J 5 (by simp),J 6 (by simp)⟩
 have AV:=Ac w _ d;simp only at AV;clear AC A9 AA a U J AB;go_enter func135,ntmps135;go_upto_region 1 with fail
 refine Qp λF f=> ?_;have G:=D (w,F) (by rw[f];go_grown);have AW:=D (F.heap[w.heap.size]?=R (Jf (A N 0 0) 0 0 0 (A N 0 0) (A N 0 0) 0)) (by rw[f];exact Bg w _);have A0:=D (F.heap.size=w+1) (by rw[f];simp);have d:=jC G d;have x:=jC G x;have y:=jC G y;have z:=jC G z;have d4:=jC G d4;have d5:=jC G d5;have d6:=jC G d6;clear f;go_upto_region 2 with((go_at_call 132;(with_reducible refine(Q7j [v0,v1,v2,v3,v4,v5,v6] p (AP.o.kb G) AU).mono ?_);rintro e w1 ⟨vs,rfl,E,H⟩;have AD:=qh E;have j:=qh H;obtain⟨P0,px,cx,rfl,-⟩:=E.poolShape V.o.1 V.o.2;clear E H))
 refine Qp λl m=> ?_;obtain⟨P,hP,AE⟩:∃P,Y2 l w1 0 p P/\∀b∈P.all,F<=b:=by rw[m];exact Y2.ofBox AD V.o.1 V.o.2
 have A1:=D (F,l) (by rw[m];exact j.o.alloc j.o.size _);have HP:=qh hP;have A2:=qh AE;have AF:=j.o.size;have AG:w1.heap.size<l:=by rw[m];simp
 have L:=qh (Cj AF AG);clear m hP AE AF AG AD j d x y z d4 d5 d6;have AX:=qh (AQ.o.kb G);have AY:=D (∀b∈w1.heap.size::P.all,F<=b) (λb H=>(Aq.1 H).elim (λe=>by rw[e];exact L.o.1) (A2.o b));go_upto_region 3 with((go_at_call 177;(with_reducible refine(Quu F _ A1 p0 s bk AX AT AR p P k HP AY hk AS).mono ?_);rintro e W ⟨kd,rfl,hf,AH⟩;have AZ:=qh hf;have AI:=qh AH;clear AH hf))
 have A3:=D (Q1 (λc=>F.heap.size<=c) l W) (AZ.o.mono λc M=>M.elim (λe=>by rw[e];exact L.o.1) (A2.o c));have q:=D (W.heap[w.heap.size]?=R (Jf (A N 0 0) 0 0 0 (A N 0 0) (A N 0 0) 0)) (by have h0:=A0.o;have h1:=L.o;rw[A3.o.block _ (by omega) (by omega),A1.o.block _ (by omega)];exact AW.o);have AJ:=D (w,W) (by have h0:=A0.o;have h1:=L.o;exact(G.o.trans (A1.o.mono (by omega))).trans (A3.o.below (by omega) (λi hi=>by omega)));obtain⟨⟨r0,r1,r2,r3,r4,r5,r6⟩,BA⟩:=Q2z q.o;obtain⟨A4,r⟩:∃c,(Yo bk p k).1=c:=⟨_,rfl⟩;have A5:=qh r;rw[r]at AI;rw[r];have BB:=Zl q.o;clear r;by_cases M:A4=0
 ·subst M
  obtain⟨K,O⟩:=AI.o rfl;have AK:=qh O;have AL:∀b∈K.all,F<=b:=λb H=>(AK.o.fresh.2.2 b H).elim (A2.o b) λh=>by have:=L.o;omega
  obtain⟨B0,B1,⟨q0,q1,q2,q3,q4,q5,q6⟩,F3,AM,B2,B3⟩:=AK.o.pool.shut AL;have AN:=qh AM.rd;simp only[Cg]at q1 q2 q3 q4 q5 q6;have B4:=Ac W _ q0;simp only at B4;clear AM B2 B3 AL O;obtain⟨B,O⟩:∃c,(Yo bk p k).2=c:=⟨_,rfl⟩;rw[O]at q0 q1 q2 q3 q4 q5 q6 AN t u;have B5:=qh O;clear O;go_wp2_with((go_at_call 132;(with_reducible refine(Q7j [A (R (K.S.cb,K.S.o)) (mC (pM B)) K.S.cap,(mF (pM B)),I Z (mR (pM B)).1,I Z (mR (pM B)).2,A B0 (mX (pM B)) B1,A (R (K.wb,K.wo)) (pW B) K.wcap,(pA B)] B AN t.o.1).mono ?_);rintro e w4 ⟨vs,rfl,E,H⟩;have B6:=qh E;have B7:=qh H;obtain⟨C,A6,A7,rfl,-⟩:=E.poolShape u.o.1 u.o.2;have A8:=qh (Qf q.o H);obtain⟨⟨s0,s1,s2,s3,s4,s5,s6⟩,sf⟩:=Q2z A8;have BC:=Zl A8;clear E H))
  have Y:=Q68 A8 (A (R (C.S.cb,C.S.o)) (mC (pM B)) C.S.cap) (A A6 (mX (pM B)) A7) (A (R (C.wb,C.wo)) (pW B) C.wcap) (mF (pM B)) (mR (pM B)).1 (mR (pM B)).2 (pA B);have T:=Zx (X:=λc=>c=w.heap.size) (g:=w) rfl [A (R (C.S.cb,C.S.o)) (mC (pM B)) C.S.cap,(mF (pM B)),I Z (mR (pM B)).1,I Z (mR (pM B)).2,A A6 (mX (pM B)) A7,A (R (C.wb,C.wo)) (pW B) C.wcap,(pA B)] 0 w4;simp only[Yu,Cg,Bj]at Y T;obtain⟨⟨t0,t1,t2,t3,t4,t5,t6⟩,-⟩:=Q2z Y;refine Ce (v:=.tuple #[.agg #[A (R (C.S.cb,C.S.o)) (mC (pM B)) C.S.cap,(mF (pM B)),I Z (mR (pM B)).1,I Z (mR (pM B)).2,A A6 (mX (pM B)) A7,A (R (C.wb,C.wo)) (pW B) C.wcap,(pA B)],()]) (by simp[results,results135,go_sem,t0,t1,t2,t3,t4,t5,t6]) rfl ?_;have h0:=A0.o;have h1:=L.o;have h3:=A3.o.size;refine⟨_,_,_,_,_,_,_,_,_,_,_,_,_,by rw[A5.o],λ_=> ?_,AJ.o.trans (((Ay B7).trans T).below (by omega) (λi hi=>by omega))⟩;rw[B5.o];exact(B6.o.frame T (λi hi=>by omega)).lo (by omega)
 have BD:(A4 !=0)=Bn:=by simpa using M
 have B8:=qh M;clear M;go_wp2_with fail
 have Y:=Q68 q.o (A N 0 0) (A N 0 0) (A N 0 0) 0 0 0 0;have T:=Zx (X:=λc=>c=w.heap.size) (g:=w) rfl [jN,(),(),(),jN,jN,()] 0 W;simp only[Yu,Cg,Bj]at Y T;obtain⟨⟨t0,t1,t2,t3,t4,t5,t6⟩,-⟩:=Q2z Y;refine Ce (v:=.tuple #[.agg #[jN,(),(),(),jN,jN,()],A4]) (by simp[results,results135,go_sem,t0,t1,t2,t3,t4,t5,t6]) rfl ?_;exact⟨_,_,_,_,_,_,_,_,_,_,_,_,_,by rw[A5.o],λe=>absurd (A5.o.symm.trans e) B8,AJ.o.trans (T.below (by omega) (λi hi=>by omega))⟩
theorem Rd.fits: {t:Ty}-> {w:Bh}-> {vs:List Bk}-> {x:t.den}->Rd t w vs x->Q55 t x
 | .int,_,_,_,h=>h.2
 | .bool,_,_,_,_=>trivial
 | .pair _ _,_,_,_,⟨_,_,_,h1,h2⟩=>⟨h1.fits,h2.fits⟩
 | .slice e,_,_,xs,h=>λx B=>by obtain⟨i,C,rfl⟩:=Av.1 B;obtain⟨p,c,rfl,-,-,E⟩:=Jh h;obtain⟨_,_,-,cs,-,-,F⟩:=Rd.elem E i C;exact F.fits
def Qv2{α}(f)(n:Nat)(l:List α)(h:∀x∈l,(∀y∈f x,Qyn y)/\(f x)=n)(B:n<=4):((l.map f).flatMap Vz).length<=l * 150:=by
 have:=Qfr Vz 150 (l.map f) λy C=>by grind[Q9p]
 simpa using this
def Qv7{c:Qb}(h:Q55 Q4 c)(C:(aD c).length<=3000)(E:(aW c).length<=3000):(Q4k c).length<=600000:=by
 obtain⟨k,l,v,d,ws⟩:=c;obtain⟨K,L,M,H,F⟩:=h;have J:=Q9p (l:=[k,l,v]) (by intro x B;simp only[List.mem_cons,Cs,or_false]at B;rcases B with rfl|rfl|rfl<;>assumption) (by simp);have C:d.length<=3000:=C;have E:ws.length<=3000:=E;have O:=Q9p (l:=d) H (by omega);have P:=Qv2 Q3c 2 ws (λx B=>⟨λy G=>by
  simp only[Q3c,List.mem_cons,Cs,or_false]at G;rcases G with rfl|rfl
  ·exact(F x B).1
  exact(F x B).2,rfl⟩) (by omega)
 show((_::_::ws.map Q3c).flatMap Vz).length<=_;rw[Cr,Cr,Bo,Bo];simp only[Br,Em]at J;show(Vz [k,l,v]).length+((Vz d).length+_)<=_;omega
def Qwd{c:Qxb}(h:Q55 Qh c)(G:(wX c).length<=4000000)(H:(wL c).length<=4000000)(J:(wC c).length<=7):(Qe1 c).length<=1300000000:=by
 obtain⟨p,v,xs,C,F⟩:=c;obtain⟨P,S,K,L,M⟩:=h;have G:xs.length<=4000000:=G;have H:C.length<=4000000:=H;have J:F.length<=7:=J;have O:=Q9p (l:=[p,v,(xs:Int),(C:Int)]) (by intro x B;simp only[List.mem_cons,Cs,or_false]at B;rcases B with rfl|rfl|rfl|rfl<;>first|assumption|(unfold Qyn;omega)) (by simp);have T:=Q9p (l:=F) M (by omega);have U:=Qv2 Q3c 2 xs (λx B=>⟨λy E=>by
  simp only[Q3c,List.mem_cons,Cs,or_false]at E;rcases E with rfl|rfl
  ·exact(K x B).1
  exact(K x B).2,rfl⟩) (by omega)
 have V:=Qv2 Q3q 4 C (λx B=>⟨λy E=>by simp only[Q3q,List.mem_cons,Cs,or_false]at E;obtain⟨⟨a,b⟩,c,d⟩:=L x B;rcases E with rfl|rfl|rfl|rfl<;>assumption,rfl⟩) (by omega);show((_::_::(xs.map Q3c++C.map Q3q)).flatMap Vz).length<=_;rw[Cr,Cr,List.flatMap_append,Bo,Bo,Bo];simp only[Br,Em]at O;show(Vz [p,v,(xs:Int),(C:Int)]).length+((Vz F).length+_)<=_;omega
def Qu0{p:Ye}(h:Q55 Qv p)(C:Q0p p):(Q86 p).length<=10000000000:=by
 have F:=Qfr Q4k 600000 (mC (pM p)) λc B=>Qv7 (h.1.1 c B) (C.c c B).1 (C.c c B).2;have G:=Qfr Qe1 1300000000 (pW p) λc B=>Qwd (h.2.1 c B) (C.wk c B).1 (C.wk c B).2.1 (C.wk c B).2.2;have H:=Q9p (l:=[pA p,mF (pM p),(mR (pM p)).1,(mR (pM p)).2]) (by
  intro x E;simp only[List.mem_cons,Cs,or_false]at E;rcases E with rfl|rfl|rfl|rfl
  ·exact h.2.2
  ·exact h.1.2.1
  ·exact h.1.2.2.1.1
  exact h.1.2.2.1.2) (by simp)
 have J:(mC (pM p)).length * 600000<=1500 * 600000:=Bd _ C.n;have K:(pW p).length * 1300000000<=4 * 1300000000:=Bd _ C.w;rw[Q6j,Bo,Bo];unfold Q6a;grind
def Qb1{w vs}{p:Ye}(h:Rd Qv w vs p):∃(q1:Option Cp) (B C:Nat) (f t a:Int) (E:Option Cp) (F G:Nat) (H:Option Cp) (J K:Nat) (L:Int),vs=[A q1 B C,f,t,a,A E F G,A H J K,L]:=by
 grind[Rd.poolV]
def Q84: {t:Ty}-> {w:Bh}-> {vs:List Bk}-> {x:t.den}-> {F:List Nat}->Ow t w vs x F->∀u∈vs,u.oneCell'=Bn
 | .int,_,_,_,_,⟨h,_⟩,u,hu=>by rw[h]at hu;rw[Bb.1 hu];rfl
 | .bool,_,_,_,_,⟨h,_⟩,u,hu=>by rw[h]at hu;rw[Bb.1 hu];rfl
 | .pair _ _,_,_,_,_,⟨_,_,_,_,e,_,h1,h2⟩,u,hu=>by rw[e]at hu;exact(At0.1 hu).elim (Q84 h1 u) (Q84 h2 u)
 | .slice _,_,_,_,_,⟨v,e,h⟩,u,hu=>by rw[e]at hu;rw[Bb.1 hu];rcases h with⟨_,_,_,B,_⟩|⟨_,_,_,_,_,_,B,_⟩<;>rw[B]<;>rfl
end Go.Proofs.YtcjngpfigpglfaaGreatDoor
