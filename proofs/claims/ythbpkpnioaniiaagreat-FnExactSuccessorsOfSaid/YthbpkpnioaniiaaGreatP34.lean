import Derived.Test.YthbpkpnioaniiaaGreatP28
set_option maxHeartbeats 40000000
set_option maxRecDepth 100000
set_option linter.all false
namespace Go.Proofs.YthbpkpnioaniiaaGreat
open Go.RowKit Go.Proofs.Tryz
open Go.Value renaming int->I,slice->A
open Go.IntKind renaming i64->Z
open Option renaming none->N,some->R
open Bool renaming true->Bn,false->Bm,and_eq_false_iff->Hk,not_false->He
open Go renaming World->Bh,Calls->Bq,heap_alloc_new->Bg
open Int renaming emod_nonneg->Ga,emod_lt_of_pos->Ew
open Nat renaming zero_mul->Db,add_zero->Cq,reduceAdd->Bj
theorem Qhz(w:Bh)(pb z:Nat)(p:J9)(P:PS)(k:Nat)(h:Zj w pb z p P)(hk:k<(pW p).length)(hl:0<(wL (Q5 p k)).length)(E2:(wL (Q5 p k)).length<=1000000)(E3:(wX (Q5 p k)).length<=1000000)
  (g1:Zh (mC (pM p)) (Q33 (Q5 p k)).1=Bn) (g2:Zh (mC (pM p)) (Q33 (Q5 p k)).2=Bn):
  Bq prog 118 #[.pointer (R ⟨pb,z,N⟩),.pointer (R ⟨P.wb,P.wo+k * 5,N⟩)] w λe w'=>e=.returned (.tuple #[])/\∃P',Qy w P pb z w' ((Jq (pM p) (Q5 p k)).1,(pW p).set k (Jq (pM p) (Q5 p k)).2,pA p) P':=by
 have HP:=qh h;obtain⟨pl,cl,Gl,c3,AP,B4,B5,CE,B6⟩:=h.focL hk;obtain⟨G,H,rfl,hE⟩:=Rd.elem AP.rd 0 hl;have CF:=qh AP;have E4:=qh B5;have CG:=qh B4;have CH:=qh B6;have E5:(wL (Q5 p k)).length<=cl:=(AP.flatBlk rfl hl).2.2.1;have AQ:D (Q33 (Q5 p k)=(wL (Q5 p k))[0]):=qh (by unfold Q33;rw[Ab,Ad hl];rfl);have CI:=qh (Qex (f:=λx=>Zh (mC (pM p)) x=Bn) g1 g2);have HG:D ((Zh (mC (pM p)) (Q33 (Q5 p k)).1=Bn/\Zh (mC (pM p)) (Q33 (Q5 p k)).2=Bn)):=qh (⟨g1,g2⟩);clear g1 g2 AP B5 CE B4 B6;have B7:=AQ.o;generalize (wL (Q5 p k))[0]=l0 at *
 obtain⟨⟨U,l⟩,⟨O,m⟩⟩:=l0;obtain⟨⟨e0,e1,e2,e3⟩,i0,i1,i2,i3⟩:=hE.link;simp only[Db,Cq]at e0 e1 e2 e3;have HI:D ((Qqm U/\Qqm l)/\(Qqm O/\Qqm m)):=qh (⟨⟨i0,i1⟩,i2,i3⟩);have E6:=i1.bd;have E7:=i3.bd;have E8:(0:Int)<(wL (Q5 p k)).length:=by omega
 have CJ:=h.mem.blk.lt;have CK:=Ac w _ c3;have CL:=Ac w _ e0;simp only at CK CL;rw[B7]at HG;have HT:D ((U=1\/U=2)/\(O=1\/O=2)):=qh (by have h1:=(Q2m HG.o.1).2;have h2:=(Q2m HG.o.2).2;simp only at h1 h2;omega);clear hE i0 i1 i2 i3 h B7;go_enter func118,ntmps118;go_upto_region 1 with fail
 go_cut [5,6] (λx y wx=>∃(V by_:Nat),x=.pointer (R ⟨V,0,N⟩)/\y=.pointer (R ⟨by_,0,N⟩)/\V≠by_/\(w.heap.size<=V/\w.heap.size<=by_)/\wx.heap[V]?=R (.cells #[I Z U,I Z l] 40 (0,0))/\wx.heap[by_]?=R (.cells #[I Z O,I Z m] 40 (0,0))/\Below w.heap.size w wx)
 case first=>
  have HK:D (∀W,Below w.heap.size w W->W.cell? ⟨P.wb,P.wo+k * 5+3,N⟩=R (A (R ⟨G,H,N⟩) (wL (Q5 p k)).length cl)/\W.cell? ⟨G,H,N⟩=R (I Z U)/\W.cell? ⟨G,H+1,N⟩=R (I Z l)/\W.cell? ⟨G,H+2,N⟩=R (I Z O)/\W.cell? ⟨G,H+3,N⟩=R (I Z m)):=qh (λW M=>Qar M c3 e0 e1 e2 e3)
  go_region_held3(λW=>W.cell? ⟨P.wb,P.wo+k * 5+3,N⟩=R (A (R ⟨G,H,N⟩) (wL (Q5 p k)).length cl)/\W.cell? ⟨G,H,N⟩=R (I Z U)/\W.cell? ⟨G,H+1,N⟩=R (I Z l)/\W.cell? ⟨G,H+2,N⟩=R (I Z O)/\W.cell? ⟨G,H+3,N⟩=R (I Z m))
   (((refine HK.o _ ?_);go_grown)) (first|fail)
  all_goals(go_wp2_with fail;go_meet)
  ·exact⟨_,_,rfl,rfl,by omega,⟨by omega,by omega⟩,(Jn w _ _ _ _).1,(Jn w _ _ _ _).2,by go_grown⟩
  ·exact⟨_,_,rfl,rfl,by omega,⟨by omega,by omega⟩,(Jn w _ _ _ _).2,(Jn w _ _ _ _).1,by go_grown⟩
 case rest=>
 obtain⟨V,by_,rfl,rfl,B8,⟨B9,BA⟩,hx,hy,M⟩:=hcut;rename Bh=>W1
 have AR:=qh M;have AA:=qh hx;have AB:=qh hy;obtain⟨⟨x0,x1⟩,xf⟩:=Za AA.o;obtain⟨⟨y0,y1⟩,yf⟩:=Za AB.o;clear hx hy M e0 e1 e2 e3;go_upto_region 2 with fail
 go_cut [38] (λq wx=>q=.bool (O==2 && (U !=2||decide (l<m)))/\W1=wx)
 case first=>
  have CM:(O=1)\/(O=2/\U=1)\/(O=2/\U=2/\l<m)\/(O=2/\U=2/\m<=l):=by have:=HT.o;omega
  rcases CM with rfl|⟨rfl,rfl⟩|⟨rfl,rfl,hlt⟩|⟨rfl,rfl,hge⟩
  all_goals
   go_wp2_with fail
   go_meet;refine⟨?_,rfl⟩;first|(simp;done)|(simp;omega)
 case rest=>
  obtain⟨rfl,rfl⟩:=hcut;obtain⟨q,hq⟩:∃q:Bool,q=(O==2 && (U !=2||decide (l<m))):=⟨_,rfl⟩;have HQ:D (Q5f ((U,l),(O,m))=if q then((O,m),(U,l))else((U,l),(O,m))):=qh (by rw[hq];rfl);rw[<-hq];clear hq;go_upto_if 38 with(fail)
  have CN:=(Al.1 AA.o).1;have CO:=(Al.1 AB.o).1;cases q;case' true=>
   go_upto_region 4 with fail
   refine Qq ?_;intro W2 AE;obtain⟨d,B,E,C,AC,L,AF,AG,AH⟩:∃d B E C:Int,D (Q5f (Q33 (Q5 p k))=((d,B),(E,C)))/\D ((Qqm d/\Qqm B)/\(Qqm E/\Qqm C))/\D (W2.heap[V]?=R (.cells #[I Z d,I Z B] 40 (0,0)))/\D (W2.heap[by_]?=R (.cells #[I Z E,I Z C] 40 (0,0)))/\D (Below w.heap.size w W2):=by rw[AE];exact⟨O,m,U,l,qh (by rw[AQ.o,HQ.o];rfl),qh ⟨HI.o.2,HI.o.1⟩,qh (Qn5 AA.o AB.o B8 _ _ _ _).1,qh (Qn5 AA.o AB.o B8 _ _ _ _).2,qh ((((AR.o.setCell B9 _).setCell B9 _).setCell BA _).setCell BA _)⟩
   clear AE
  case' false=>
   go_upto_region 4 with fail
   refine Qq ?_;intro W2 AE;obtain⟨d,B,E,C,AC,L,AF,AG,AH⟩:∃d B E C:Int,D (Q5f (Q33 (Q5 p k))=((d,B),(E,C)))/\D ((Qqm d/\Qqm B)/\(Qqm E/\Qqm C))/\D (W2.heap[V]?=R (.cells #[I Z d,I Z B] 40 (0,0)))/\D (W2.heap[by_]?=R (.cells #[I Z E,I Z C] 40 (0,0)))/\D (Below w.heap.size w W2):=by rw[AE];exact⟨U,l,O,m,qh (by rw[AQ.o,HQ.o];rfl),HI,AA,AB,AR⟩
   clear AE
  all_goals
   clear HQ x0 x1 xf y0 y1 yf AA AB AR CN CO;obtain⟨⟨x0,x1⟩,xf⟩:=Za AF.o;obtain⟨⟨y0,y1⟩,yf⟩:=Za AG.o;have E9:=AH.o.size;have BB:=(Al.1 AF.o).1;have BC:=(Al.1 AG.o).1;have A6:=qh ((Qy.start HP.o).below AH.o);have BD:=Q2m (w:=(d,B)) (by have:=CI.o.1;rw[AC.o]at this;exact this);simp only at BD;obtain⟨⟨BE,BF⟩,CP⟩:=BD;have EA:=L.o.1.2.bd;have EB:=L.o.2.2.bd;have CQ:(d=1)\/(d=2/\E=2/\B=C)\/(d=2/\¬(E=2/\B=C)/\(Q26 (pM p) B).length=0)\/(d=2/\¬(E=2/\B=C)/\0<(Q26 (pM p) B).length):=by omega
   have AI:=qh CJ;clear CP;rcases CQ with rfl|⟨rfl,rfl,rfl⟩|⟨rfl,hn,hw0⟩|⟨rfl,hn,hw0⟩;case' inr.inl=>have hq:=λw=>Q2j L.o.1.1 L.o.1.2 L.o.1.1 L.o.1.2 w;simp only[beq_self_eq_true,Bool.and_self,Bool.not_true]at hq
   case' inr.inr.inl=>
    have hq:=λw=>Q2j L.o.1.1 L.o.1.2 L.o.2.1 L.o.2.2 w;have A7:(2==E && B==C)=Bm:=by simp only[Hk,beq_eq_false_iff_ne];omega
    have AS:=qh A7;simp only[A7,He]at hq;have AT:=qh hw0;obtain⟨EC,ED,-,-,f4,-⟩:=A6.o.pool.mem.focusW (i:=B) (by omega);have AJ:(aW (Q7 (mC (pM p)) B)).length=0:=hw0;rw[AJ]at f4;obtain⟨_,_,m0,-,-,-,-,-,-,-,-⟩:=A6.o.pool.mem.head;have AK:=A6.o.pool.mem.cells.bound;unfold maxLen at AK;obtain⟨CR,CS⟩:=AK;clear hn hw0 AJ A7
   case' inr.inr.inr=>
    have hq:=λw=>Q2j L.o.1.1 L.o.1.2 L.o.2.1 L.o.2.2 w;have A7:(2==E && B==C)=Bm:=by simp only[Hk,beq_eq_false_iff_ne];omega
    have AS:=qh A7;simp only[A7,He]at hq;have AT:=qh hw0;obtain⟨pw,cw,Gd,Gw,f4,AD,-,-,-⟩:=A6.o.pool.mem.focusW (i:=B) (by omega);have AJ:0<(aW (Q7 (mC (pM p)) B)).length:=hw0;obtain⟨bw,ow,rfl,BG⟩:=Rd.elem AD.rd 0 AJ;have HZ:D ((Q26 (pM p) B).getD 0 (0,0)=((aW (Q7 (mC (pM p)) B))[0].1,(aW (Q7 (mC (pM p)) B))[0].2)):=qh (by unfold Q26;rw[Ab,Ad AJ];rfl);obtain⟨z0,z1,BH,BI⟩:=At.word (t:=(aW (Q7 (mC (pM p)) B))[0].1) (a:=(aW (Q7 (mC (pM p)) B))[0].2) BG;simp only[Ty.sz,Bj,Db,Cq]at z0 z1;generalize (aW (Q7 (mC (pM p)) B))[0].1=zt at *
    generalize (aW (Q7 (mC (pM p)) B))[0].2=za at *
    have BJ:=qh (And.intro BH BI);obtain⟨_,_,m0,-,-,-,-,-,-,-,-⟩:=A6.o.pool.mem.head;have AK:=A6.o.pool.mem.cells.bound;unfold maxLen at AK;obtain⟨CR,CS⟩:=AK;have EE:(0:Int)<(aW (Q7 (mC (pM p)) B)).length:=by omega
    clear hn hw0 A7 AD BG BH BI
   all_goals
    go_quiet(fail)
    refine Qq ?_;intro J BK;have n:Below W2.heap.size W2 J:=by rw[BK];exact Q6 (Ai _ _) _
    have A3:D (Below w.heap.size w J):=qh (Q0 AH.o n);have Y:D (Qy w P pb z J p P):=qh (A6.o.below n);have CT:=qh ((n.block V BB).trans AF.o);have CU:=qh ((n.block by_ BC).trans AG.o);have AU:W2.heap.size<=J.heap.size:=n.size;clear BK x0 x1 xf y0 y1 yf AF AG AH;obtain⟨⟨x0,x1⟩,xf⟩:=Za CT.o;obtain⟨⟨y0,y1⟩,yf⟩:=Za CU.o;have BB:V<J.heap.size:=by omega
    have BC:by_<J.heap.size:=by omega
   case' inr.inr.inr=>
    have f4:=(Am n).cell _ _ f4;have z0:=(Am n).cell _ _ z0;have z1:=(Am n).cell _ _ z1;have m0:=(Am n).cell _ _ m0;have CV:=(Am A3.o).cell _ _ c3;have A8:D (Jq (pM p) (Q5 p k)=(Qg (pM p) B,(wP (Q5 p k),wV (Q5 p k),wX (Q5 p k),((Q26 (pM p) B).getD 0 (0,0),(E,C))::(wL (Q5 p k)).drop 1,wC (Q5 p k)))):=qh (by have AV:(((2:Int),B)==(E,C))=Bm:=AS.o;unfold Jq;rw[AC.o];simp only[AV];rw[if_pos (by rfl),if_pos AT.o]);have CW:=qh (CF.o.focus CG.o 0 hl);obtain⟨b',o',us,Gz,BL,CX,CY,-,-,-,CZ,BM,BN,BO,BP⟩:=CW.o;have D0:=qh (Jt (t:=Qu) rfl BO);have D1:=qh CX;simp only[Option.some.injEq,Addr.mk.injEq,and_true]at BL;obtain⟨rfl,rfl⟩:=BL;have EF:=λq=>((Ay (X:=λ_=>False) A3.o).frozen CY (λh=>h) q).trans (BN q);obtain⟨u0,u1,u2,u3,rfl⟩:=Qif CZ;obtain⟨q0,q1,q2,q3⟩:=Qm3 BM;have q0:=(Am A3.o).cell _ _ q0;have q1:=(Am A3.o).cell _ _ q1;have q2:=(Am A3.o).cell _ _ q2;have q3:=(Am A3.o).cell _ _ q3;simp only[Db,Cq]at q0 q1 q2 q3;have D2:=qh BP;clear BN BO BM BP n;go_wp2_with fail
    go_still_tail 18,(by kernel_rfl)
    go_upto_region 6 with fail
    refine Qq ?_;intro W4 A0;have BQ:D (∃P',Qy w P pb z W4 (Vt p k (Q7e (Q5 p k) (((zt,za),(E,C))::(wL (Q5 p k)).drop 1))) P'):=qh (by
     rw[A0];have D3:Q1 (λc=>c=G) J ((((J.setCell ⟨G,H,N⟩ (I Z zt)).setCell ⟨G,H+1,N⟩ (I Z za)).setCell ⟨G,H+2,N⟩ (I Z E)).setCell ⟨G,H+3,N⟩ (I Z C)):=Q56 (X:=λc=>c=G) (Q1.refl _ _) rfl _ _ _ _;have BR:Q1 (λc=>c=G) w (((((J.setCell ⟨G,H,N⟩ (I Z zt)).setCell ⟨G,H+1,N⟩ (I Z za)).setCell ⟨G,H+2,N⟩ (I Z E)).setCell ⟨G,H+3,N⟩ (I Z C)).drew):=((Ay A3.o).trans D3).drew
     have D4:Q9 G H 4 w (((((J.setCell ⟨G,H,N⟩ (I Z zt)).setCell ⟨G,H+1,N⟩ (I Z za)).setCell ⟨G,H+2,N⟩ (I Z E)).setCell ⟨G,H+3,N⟩ (I Z C)).drew):=
      ((((((Q9.refl G H 4 w).fr (Ay (X:=λ_=>False) A3.o) (λh=>h)).set H (by omega) _).set (H+1) (by omega) _).set (H+2) (by omega) _).set (H+3) (by omega) _).drew
     have D5:Qqw (((((J.setCell ⟨G,H,N⟩ (I Z zt)).setCell ⟨G,H+1,N⟩ (I Z za)).setCell ⟨G,H+2,N⟩ (I Z E)).setCell ⟨G,H+3,N⟩ (I Z C)).drew) G H [I Z zt,I Z za,I Z E,I Z C]:=λj hj=>Qgc q0 q1 q2 q3 (I Z zt) (I Z za) (I Z E) (I Z C) j hj;have ho:=D2.o _ [I Z zt,I Z za,I Z E,I Z C] ((zt,za),(E,C)) (BR.mono λc hc=> .inl hc) (by simp only[Db,Cq];exact D4) (by simp only[Db,Cq];exact D5) (by rw[D0.o];exact Ow.link BJ.o.1 BJ.o.2 L.o.2.1 L.o.2.2);have:=CH.o _ ((wL (Q5 p k)).set 0 ((zt,za),(E,C))) (BR.mono λc hc=>hc▸D1.o) ho;rw[show(wL (Q5 p k)).set 0 ((zt,za),(E,C))=((zt,za),(E,C))::(wL (Q5 p k)).drop 1 from by
      have:0<(wL (Q5 p k)).length:=hl;match wL (Q5 p k),this with
      |x::r,_=>rfl]at this
     exact this)
    obtain⟨g,AW⟩:=BQ.o;have BS:=qh AW;have D6:D (Z8 W4 pb z (pM p) g.S):=qh (AW.pool.mem);have x1:=(show W4.cell? ⟨V,1,N⟩=R (I Z B)by rw[A0];exact Qf (X:=λc=>c=G) (Q1.drew (Q56 (X:=λc=>c=G) (Q1.refl _ _) rfl _ _ _ _)) x1 (λe=>by omega));clear A0 AW BQ q0 q1 q2 q3 z0 z1 y0 y1 f4 CV x0;go_wp2_with((go_at_call 176;(with_reducible refine(Q7n _ _ _ _ _ D6.o B BE BF).mono ?_);rintro e W5 ⟨rfl,hm,s,AL⟩;have D7:=qh hm;have D8:=qh s;have D9:=qh AL;clear hm s AL))
    refine bodyPost_ret (v:=.tuple #[]) (by simp[results,results118,go_sem]) rfl ⟨rfl, ?_⟩;have h5:=BS.o.pool.stM D7.o (D8.o.mono λc hc=>hc.imp id Q19) D9.o (λb M=>(Zf M).elim (λh=>by simp at h) .inl);rw[A8.o,HZ.o];exact⟨_,BS.o.trans AI.o h5⟩
   focus
    have m0:=(Am n).cell _ _ m0;have f4:=(Am n).cell _ _ f4;have A8:D (Jq (pM p) (Q5 p k)=(Qa (pM p) B [(E,C)],(wP (Q5 p k),wV (Q5 p k),wX (Q5 p k),(wL (Q5 p k)).drop 1,wC (Q5 p k)))):=qh (by have AV:(((2:Int),B)==(E,C))=Bm:=AS.o;simp[Jq,AC.o,AV,AT.o]);obtain⟨pw,cw,Gd,Gw,DA,AD,DB,BT,BU⟩:=Y.o.pool.mem.focusW (i:=B) (by omega);have DC:=qh BU;have DD:=qh BT;have EG:=λq=>Y.o.pool.mem.cells.blk.free q;have DE:=Y.o.pool.mem.cells.blk.lt;have EH:=Y.o.pool.mem.blk.lt;have BV:=Y.o.pool.mem.ne;have EI:P.S.cb<w.heap.size:=HP.o.lt _ (Aa _ (Ag _ Ae));have DF:D (∀W,Q1 (λc=>c=P.S.cb) J W->W.cell? ⟨pb,z,N⟩=R (A (R ⟨P.S.cb,P.S.o,N⟩) (mC (pM p)).length P.S.cap)/\W.cell? ⟨V,1,N⟩=R (I Z B)/\W.cell? ⟨by_,0,N⟩=R (I Z E)/\W.cell? ⟨by_,1,N⟩=R (I Z C)):=qh (λW s=>⟨Qf s m0 BV.1,Qf s x1 (λe=>by omega),Qf s y0 (λe=>by omega),Qf s y1 (λe=>by omega)⟩);clear AD DB BT BU DA n;go_upto_region 9 with fail
    go_region_held3(λW=>W.cell? ⟨pb,z,N⟩=R (A (R ⟨P.S.cb,P.S.o,N⟩) (mC (pM p)).length P.S.cap)/\W.cell? ⟨V,1,N⟩=R (I Z B)/\W.cell? ⟨by_,0,N⟩=R (I Z E)/\W.cell? ⟨by_,1,N⟩=R (I Z C))
     (((with_reducible refine DF.o _ ?_);(repeat(first|with_reducible exact Q1.refl _ _|with_reducible apply Q1.drew|with_reducible apply Q1.alloc|with_reducible refine Qnu ?_)))) (first|fail)
    go_upto_region 12 with fail
    refine Qq ?_;intro W4 A0;obtain⟨K,g,A4,AX,AY,AZ⟩:∃(K:J9) (g:PS),D (Qy w P pb z W4 K g)/\D (wL (Q5 K k)=wL (Q5 p k))/\D (k<(pW K).length)/\D (((Jq (pM p) (Q5 p k)).1,(pW p).set k (Jq (pM p) (Q5 p k)).2,pA p)=Vt K k (Q7e (Q5 K k) ((wL (Q5 p k)).drop 1))):=by rw[A0,<-World.setCell_alloc_past _ _ _ _ DE];have AD:=Q43 (Bg J _) L.o.2.1 L.o.2.2 (T:=40);have hm:=DC.o (J.alloc (.cells #[I Z E,I Z C] 40)) (R ⟨J.heap.size,0,N⟩) 1 1 [(E,C)] [J.heap.size] ((Q1.refl _ _).alloc _) AD rfl (by simp) (λb M=> .inr λhm=>by have:=Y.o.pool.mem.lt b hm;rw[Bb.1 M]at this;omega);have hF:Q1 (λc=>c=P.S.cb) J ((J.alloc (.cells #[I Z E,I Z C] 40)).setCell ⟨P.S.cb,P.S.o+B.toNat * 5+4,N⟩ (A (R ⟨J.heap.size,0,N⟩) 1 1)):=Qnu ((Q1.refl _ _).alloc _);exact⟨(Qa (pM p) B [(E,C)],pW p,pA p),_,qh (Y.o.trans AI.o (Y.o.pool.stM hm.drew (hF.mono λc hc=> .inr (Q19 hc)).drew (Q9.of_frame hF BV.1 _ _).drew (λb M=>(Zf M).elim (λh=>(At0.1 h).elim (λh=> .inl (DD.o b (Ag _ h)).1) λh=> .inr (by rw[Bb.1 h];omega)) .inl))),qh rfl,qh hk,qh (by rw[A8.o];rfl)⟩
    clear A0
   rotate_left
   focus
    have A8:D (Jq (pM p) (Q5 p k)=(Qg (pM p) B,(wP (Q5 p k),wV (Q5 p k),wX (Q5 p k),(wL (Q5 p k)).drop 1,wC (Q5 p k)))):=qh (by simp[Jq,AC.o]);go_upto_region 12 with((go_at_call 176;(with_reducible refine(Q7n _ _ _ _ _ Y.o.pool.mem B BE BF).mono ?_);rintro e EJ ⟨rfl,hm,s,AL⟩;have DG:=qh hm;have A9:=qh s;have DH:=qh AL;clear hm s AL))
    refine Qq ?_;intro W4 A0;obtain⟨K,g,A4,AX,AY,AZ⟩:∃(K:J9) (g:PS),D (Qy w P pb z W4 K g)/\D (wL (Q5 K k)=wL (Q5 p k))/\D (k<(pW K).length)/\D (((Jq (pM p) (Q5 p k)).1,(pW p).set k (Jq (pM p) (Q5 p k)).2,pA p)=Vt K k (Q7e (Q5 K k) ((wL (Q5 p k)).drop 1))):=by rw[A0];exact⟨(Qg (pM p) B,pW p,pA p),_,qh (Y.o.trans AI.o (Y.o.pool.stM DG.o (A9.o.mono λc hc=>hc.imp id Q19) DH.o (λb M=>(Zf M).elim (λh=>by simp at h) .inl))),qh rfl,qh hk,qh (by rw[A8.o];rfl)⟩
    clear A0
   rotate_left
   focus
    obtain⟨pr,cr,Gr,r2,BW,BX,AM,BY⟩:=Y.o.pool.focR hk;have BZ:=qh BW;have DI:=qh BX;have EK:=qh AM;have DJ:=qh BY;have C0:D (Qqm (min B C)/\Qqm (max B C)):=qh (by unfold Qqm;omega);have C1:¬P.wb∈Gr:=λe=>(AM _ e).2.2.1 rfl;have B0:=HP.o.lt;have C2:¬V∈Gr:=λe=>by have:=B0 _ (Aa _ (AM _ e).1);omega
    have C3:¬by_∈Gr:=λe=>by have:=B0 _ (Aa _ (AM _ e).1);omega
    have C4:D (∀W,Q1 (λc=>c∈Gr\/c=P.wb) J W->W.cell? ⟨V,1,N⟩=R (I Z B)/\W.cell? ⟨by_,1,N⟩=R (I Z C)):=qh (λW s=>⟨Qf s x1 (λe=>e.elim C2 λe=>by omega),Qf s y1 (λe=>e.elim C3 λe=>by omega)⟩);have DK:=λq=>Y.o.pool.wks.blk.free q;have DL:=Y.o.pool.wks.blk.lt;have B3:=qh (And.intro C1 DL);have A8:D (Jq (pM p) (Q5 p k)=(pM p,(wP (Q5 p k),wV (Q5 p k),wX (Q5 p k)++ [(min B C,max B C)],(wL (Q5 p k)).drop 1,wC (Q5 p k)))):=qh (by unfold Jq;rw[AC.o];rfl);obtain⟨i0,DM,DN,DO,DP⟩:=info_parts J4;clear BW BX AM BY B0 C2 C3 C1;go_upto_region 7 with fail
    have EL:=Qpr;rw[<-Qpr _ (.tmp 87)]
    go_region_held3(λW=>W.cell? ⟨V,1,N⟩=R (I Z B)/\W.cell? ⟨by_,1,N⟩=R (I Z C))
     (first|with_reducible exact C4.o _ (A9.o.mono λ_ h=> .inl h)|with_reducible exact C4.o _ (Jl (A9.o.mono λ_ h=> .inl h) (.inr rfl) _)|(refine Qpa (w:=J) ?_ x1 y1;go_grown))
     ((refine Y6 _ rfl (.tmp 88) (.tmp 100) 41 rfl (e:=Q4) 117 i0 _ 16 underlying41 DM DN DO DP rfl (by decide) (v:=A pr (wX (Q5 p k)).length cr) (xs:=wX (Q5 p k)) (y:=(min B C,max B C)) (vs:=[I Z (min B C),I Z (max B C)]) (F:=Gr) J.heap.size 1 rfl rfl (BZ.o.kept λb M=>Az _ _ _ (BZ.o.lt b M)) DI.o (Ow.word C0.o.1 C0.o.2) (Q5g (Q8 (Bg J.drew _) rfl) (Q8 (Bg J.drew _) rfl)) Qj1 (by omega) ?_;intro p3 DQ w3 F3 C5 C6 AU C7;have DR:=qh C5;have DS:=qh C6;have DT:=qh AU;have A9:=qh (Q1.trans (show Q1 (λc=>c∈Gr) J _ from((Q1.refl _ J).alloc _).drew) C7);have EM:=λq=>(A9.o.frozen B3.o.2 B3.o.1 q).trans (DK q);have EN:=Qf A9.o r2 B3.o.1;clear C5 C6 AU C7))
    all_goals
     go_upto_region 12 with fail
     refine Qq ?_;intro W4 A0;obtain⟨K,g,A4,AX,AY,AZ⟩:∃(K:J9) (g:PS),D (Qy w P pb z W4 K g)/\D (wL (Q5 K k)=wL (Q5 p k))/\D (k<(pW K).length)/\D (((Jq (pM p) (Q5 p k)).1,(pW p).set k (Jq (pM p) (Q5 p k)).2,pA p)=Vt K k (Q7e (Q5 K k) ((wL (Q5 p k)).drop 1))):=by rw[A0];obtain⟨g,h4⟩:=DJ.o w3 p3 _ DQ _ F3 A9.o DR.o DS.o (λb M=>(DT.o b M).imp id λe=>by rw[e];simp);exact⟨_,g,qh (Y.o.trans AI.o h4),qh (by rw[Q1p hk,if_pos rfl];rfl),qh (by show k<((pW p).set k _).length;rw[List.length_set];exact hk),qh (by rw[A8.o,Q1p hk,if_pos rfl];show _=Vt (Vt p k _) k _;unfold Vt;simp only[pM,pW,pA,List.set_set];rfl)⟩
     clear A0
   all_goals
    obtain⟨EO,A5,DU,d3,AN,C8,DV,C9,-⟩:=A4.o.pool.focL AY.o;rw[AX.o]at d3 AN;have AO:g.wb=P.wb/\g.wo=P.wo:=⟨A4.o.fresh.1,A4.o.fresh.2.1⟩;obtain⟨CA,CB,rfl,-⟩:=Rd.elem AN.rd 0 hl;have EP:=(AN.flatBlk rfl hl).2.2.1;have DW:=qh (AN.rest rfl hl);have DX:=qh C9;have DY:=qh C8;have DZ:=λq=>A4.o.pool.wks.blk.free q;have E0:=A4.o.pool.wks.blk.lt;rw[AO.1]at DZ E0;rw[AO.1,AO.2]at d3;have CC:=qh AO;have EQ:1<=(wL (Q5 p k)).length:=hl;have ER:(1:Int)<=(wL (Q5 p k)).length:=by omega
    have ES:(1:Int)<=A5:=by omega
    clear AN C9 DV AO C8;have CD:D (∀u:Value,u=(if 1=A5 then A (R ⟨CA,CB,N⟩) 0 0 else A (R ⟨CA,CB+4,N⟩) ((wL (Q5 p k)).length-1) (A5-1))->∃P',Qy w P pb z (W4.setCell ⟨P.wb,P.wo+k * 5+3,N⟩ u) ((Jq (pM p) (Q5 p k)).1,(pW p).set k (Jq (pM p) (Q5 p k)).2,pA p) P'):=qh (λu hu=>by
     obtain⟨q5,n5,c5,e5⟩:∃(q5:Option Addr) (n5 c5:Nat),u=A q5 n5 c5:=by
      by_cases e:1=A5
      ·rw[if_pos e]at hu;exact⟨_,_,_,hu⟩
      ·rw[if_neg e]at hu;exact⟨_,_,_,hu⟩
     have hr:=DW.o;rw[show Qu.sz=4 from rfl,<-hu,e5]at hr;obtain⟨P5,h5⟩:=DX.o W4 q5 n5 c5 _ DU (Q1.refl _ _) hr DY.o (λb M=> .inl M);rw[CC.o.1,CC.o.2]at h5;rw[AZ.o,e5];exact⟨P5,A4.o.trans AI.o h5⟩)
    by_cases e1:1=A5
    ·subst e1
     have E1:(wL (Q5 p k)).length=1:=by omega
     go_wp2_with fail
     go_end0
     exact⟨rfl,CD.o _ (by simp[E1])⟩
    ·have ET:(1:Int)<A5:=by omega
     have EU:(A5:Int)≠1:=by omega
     have EV:¬A5=1:=by omega
     go_wp2_with fail
     go_end0
     exact⟨rfl,CD.o _ (by simp[e1])⟩
theorem Qjp(w:Bh)(b o:Nat)(m:Qqp)(B:List Qqb)(E a C:Int)(h:At Qr w b o (m,B,E))(H:1<=B.length)(J:B.length<=4)(K:0<=a)(L:a<B.length):
  Bq prog 121 #[.pointer (R ⟨b,o,N⟩),I Z a,I Z C] w λe w'=>e=.returned (I Z (Q17 B.length a C))/\w=w':=by
 obtain⟨-,M,O,⟨P,-⟩,-,-⟩:=h.pool;clear h;have F:¬((B.length:Int)=0):=by omega
 have S:((B.length:Int)==0)=Bm:=by rw[beq_eq_false_iff_ne];exact F
 have T:=Ga (a+1) (b:=(B.length:Int)) (by omega);have U:=Ew (a+1) (b:=(B.length:Int)) (by omega);have s1:=Ga ((a+1)%(B.length:Int)+1) (b:=(B.length:Int)) (by omega);have s2:=Ew ((a+1)%(B.length:Int)+1) (b:=(B.length:Int)) (by omega);cases q:((a+1)%(B.length:Int)==C)
 all_goals
  have G:=qh q;go_enter func121,ntmps121;go_wp2;go_ret;exact⟨Qm (by simp only[Q17,G.o];rfl),rfl⟩
theorem Ql1(w:Bh)(pb C B E:Nat)(a F:Int)(G:w.cell? ⟨pb,C+6,N⟩=R (I Z a))(H:w.cell? ⟨B,E,N⟩=R (I Z F))(L:∀q,w.frozen? ⟨pb,q,N⟩=Bm)(M:∀q,w.frozen? ⟨B,q,N⟩=Bm)(O: -10<=a/\a<=10)(P:pb≠B):
  Bq prog 120 #[.pointer (R ⟨pb,C,N⟩),.pointer (R ⟨B,E,N⟩)] w λe w'=>e=.returned (.tuple #[])/\w'=(w.setCell ⟨pb,C+6,N⟩ (I Z (a-1))).setCell ⟨B,E,N⟩ (I Z 2):=by
 have J:=Ac w _ G;have K:=Ac w _ H;simp only at J K;go_enter func120,ntmps120;go_wp2_with fail
 go_end0
 exact⟨rfl,rfl⟩
theorem Qor(w:Bh)(b o:Nat)(p:J9)(h:At Qr w b o p)(X:(pW p).length<=1000000):
  Bq prog 29 #[.pointer (R ⟨b,o,N⟩)] w λe w'=>∃v,e=.returned v/\Qqe .int 2 w.heap.size w' v (Q1b p)/\Below w.heap.size w w':=by
 obtain⟨P,M⟩:∃P,P=p:=⟨_,rfl⟩;obtain⟨m,C,ac⟩:=p;obtain⟨-,AA,AB,⟨c0,-⟩,-,⟨hc,hm,Y⟩⟩:=h.pool;have a:D (pW P=C):=qh (by rw[M];rfl);have X:C.length<=1000000:=X;rw[<-M];have HC:=qh Y;have A0:=Ac w _ c0;simp only at A0;clear Y h M hm;obtain⟨i0,A1,A2,A3,A4⟩:=info_parts Q3n;go_enter func29,ntmps29;go_wp2_with fail
 have c:=qh (Qqe.nil (t:=.int) (e:=2) (B:=w.heap.size) (w:=w));go_loopw [3,11] (λu i wr=>∃(j:Nat),j<=C.length/\i=I Z j/\D (Qqe .int 2 w.heap.size wr u (((List.range j).filter λ(k:Nat)=>wP (Q5 P k) !=4).map (λ(k:Nat)=>(k:Int))))/\D (Below w.heap.size w wr)) (λ_ i _=>C.length-(intOf i).toNat);case atStart=>exact⟨0,Ak _,rfl,c.o,Ai _ _⟩
 case round=>
  obtain⟨j,hj,rfl,E,F⟩:=hrel;clear c;by_cases d:j<C.length
  ·obtain⟨b1,o1,rfl,O⟩:=Rd.elem (HC.o.kept (Am F.o)) j d
   generalize hx:C[j]=x at O;obtain⟨G,vi,xs,ls,cs⟩:=x;have f:D (wP (Q5 P j)=G):=qh (by simp only[Q5,a.o,List.getD_eq_getElem?_getD,List.getElem?_eq_getElem d,hx];rfl);clear hx;obtain⟨px,cx,pl,cl,pc,cc,⟨S,g,l,n,q⟩,-,-,-,-⟩:=O.worker;simp only[Ty.sz,Bj]at S g l n q;clear O;obtain⟨L,J⟩:∃L:List Int,L=((List.range j).filter λ(k:Nat)=>wP (Q5 P k) !=4).map (λ(k:Nat)=>(k:Int)):=⟨_,rfl⟩;rw[<-J]at E;have r:=qh J;have A5:D (L.length<=j):=qh (by rw[J,List.length_map];have:=List.length_filter_le (λ(k:Nat)=>wP (Q5 P k) !=4) (List.range j);rw[List.length_range]at this;exact this);clear J;obtain⟨pu,cu,rfl,AC,AD⟩:=E.o.form;have A6:w.heap.size<=wr.heap.size:=F.o.size;have A7:=Ac wr _ S;simp only at A7;go_upto_region 5 with fail
   refine Qq ?_;intro T U;have H:D (Below wr.heap.size wr T):=qh (by rw[U];go_grown);obtain⟨g0,g1,g2,g3,g4⟩:=Q0n wr (I Z G) (I Z vi) (A px xs.length cx) (A pl ls.length cl) (A pc cs.length cc) 99;rw[<-U]at g0 g1 g2 g3 g4;clear U S g l n q;have AE:w.heap.size<=T.heap.size:=Au A6 H.o.size;have HJ:D (Qqm (j:Int)):=qh (by unfold Qqm;omega);by_cases K:G=4
   ·have V:(G !=4)=Bm:=by simp[K]
    have W:=qh V;clear K;go_wp2_with fail
    go_roundw;case rel=>exact⟨j+1,by omega,by go_num,(E.o.kept H.o).eqL (by rw[Q6n,f.o,W.o,r.o];simp),(show Below _ _ _ from Q0 F.o H.o)⟩
    case measure=>simp[intOf];omega
   ·have V:(G !=4)=Bn:=by simp[K]
    have W:=qh V;clear K;go_wp2_with(at_builtin;refine Q0e T rfl (.tmp 19) (.tmp 21) 63 rfl (t:=.int) rfl (by decide) w.heap.size 2 i0 _ 8 underlying63 A1 A2 A3 A4 rfl (by decide) (v:=A pu L.length cu) (xs:=L) (j:Int) _ rfl rfl (E.o.kept H.o) HJ.o rfl (by have:=A5.o;omega) (by omega) ?_;intro v9 w9 s y _;have A8:=qh s;have A9:=qh y;clear s y)
    go_roundw;case rel=>exact⟨j+1,by omega,by go_num,A8.o.eqL (by rw[Q6n,f.o,W.o,r.o];rfl),(show Below _ _ _ from(Q0 F.o H.o).trans A9.o)⟩
    case measure=>simp[intOf];omega
  ·have AF:C.length<=j:=by omega
   have z:j=C.length:=by omega
   have HE:=qh z;clear z;go_wp2_with fail
   go_ret;refine⟨_,rfl,E.o.eqL ?_,F.o⟩;rw[HE.o];simp only[Q1b,a.o]
end Go.Proofs.YthbpkpnioaniiaaGreat
