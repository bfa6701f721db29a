import Derived.Test.YthbpkpnioaniiaaGreatP14
set_option maxHeartbeats 40000000
set_option maxRecDepth 100000
set_option linter.all false
namespace Go.Proofs.YthbpkpnioaniiaaGreat
open Go.RowKit Go.Proofs.Tryz
open Go.Value renaming int->I,slice->A
open Go.IntKind renaming i64->Z
open Option renaming none->N,some->R
open Bool renaming false->Bm,true->Bn
open Go renaming World->Bh,Value->Bk,Addr->Cm,maxLen->Bp,TypeId->Cf,Calls->Bq,heap_alloc_new->Bg,bodyPost_ret->Ca,Program->Eq,TypeInfo->Gt,madeCells->Dh
open Go.RowKit renaming Below->Bi,intOf->Bv
open List renaming countP_le_length->Dc,length_take->Cj,flatten_cons->Hm,append_nil->Co
theorem Rd.poolV{w:Bh}{vs:List Bk}{cs:List Qb}{f H J:Int}{xs:List Wd}{B:List Qqb}{K:Int}(h:Rd Qr w vs ((cs,f,(H,J),xs),B,K)):
  ∃(C:Option Cm) (E:Nat) (px:Option Cm) (cx:Nat) (F:Option Cm) (G:Nat),vs=[A C cs.length E,I Z f,I Z H,I Z J,A px xs.length cx,A F B.length G,I Z K]/\(Qqm f/\Qqm H/\Qqm J/\Qqm K)/\
   (cs.length<=Bp/\Rd (.slice Q3) w [A C cs.length E] cs)/\(xs.length<=Bp/\Rd (.slice Q4) w [A px xs.length cx] xs)/\(B.length<=Bp/\Rd (.slice Qc) w [A F B.length G] B):=by
 obtain⟨_,_,rfl,⟨_,_,rfl,L,_,_,rfl,⟨rfl,P⟩,_,_,rfl,⟨_,_,rfl,⟨rfl,S⟩,⟨rfl,T⟩⟩,M⟩,_,_,rfl,O,⟨rfl,U⟩⟩:=h;obtain⟨C,E,rfl,X,V,L⟩:=J6 L;obtain⟨px,cx,rfl,x1,x2,M⟩:=J6 M;obtain⟨F,G,rfl,Y,W,O⟩:=J6 O;exact⟨C,E,px,cx,F,G,rfl,⟨P,S,T,U⟩,⟨V,L⟩,⟨x2,M⟩,⟨W,O⟩⟩
theorem Q2t{w:Bh}{b:Nat}{T:Cf}{B C E F G H J:Bk}(h:w.heap[b]?=R (.cells #[B,C,E,F,G,H,J] T (0,0))):w.cell? ⟨b,0,N⟩=R B/\w.cell? ⟨b,1,N⟩=R C/\w.cell? ⟨b,2,N⟩=R E/\w.cell? ⟨b,3,N⟩=R F/\w.cell? ⟨b,4,N⟩=R G/\w.cell? ⟨b,5,N⟩=R H/\w.cell? ⟨b,6,N⟩=R J:=
 ⟨Q8 h rfl,Q8 h rfl,Q8 h rfl,Q8 h rfl,Q8 h rfl,Q8 h rfl,Q8 h rfl⟩
theorem At.ofBox{t:Ty}{w:Bh}{b:Nat}{T:Cf}{us:List Bk}{x:t.den}(h:w.heap[b]?=R (.cells us.toArray T (0,0)))(B:Rd t w us x):At t w b 0 x:=
 ⟨us,B.length,λj C=>(by rw[Nat.zero_add];exact Q8 h (by simp[List.getElem?_eq_getElem C])),B⟩
theorem Qce{w:Bh}{cs:List Qb}{f B C:Int}{xs:List Wd}{u v:Bk}(E:Rd (.slice Q3) w [u] cs)(F:Qqm f)(G:Qqm B)(H:Qqm C)(J:Rd (.slice Q4) w [v] xs):Rd Qo w [u,I Z f,I Z B,I Z C,v] (cs,f,(B,C),xs):=
 ⟨[_],[_,_,_,_],rfl,E,[_],[_,_,_],rfl,⟨rfl,F⟩,[_,_],[_],rfl,⟨[_],[_],rfl,⟨rfl,G⟩,⟨rfl,H⟩⟩,J⟩
theorem Q86{α:Type}{p:α->Bool}{xs:List α}{k:Nat}(h:k<xs.length):(xs.take (k+1)).countP p=(xs.take k).countP p+(if p xs[k]then 1 else 0):=by
 rw[An h,List.countP_append];simp[List.countP_cons]
theorem Qkp(w:Bh)(vs:List Bk)(p:J9)(h:Rd Qr w vs p)(hz:(Z6 (pM p)).length+(Vi (pW p)).length<=10000000)(AI:(Qz (pW p)).length<=10000000):
  Bq prog 61 #[.agg vs.toArray] w λe w'=>e=.returned (.bool (J2 p))/\Bi w.heap.size w w':=by
 have H:=qh h;obtain⟨⟨cs,f,⟨C,E⟩,xs⟩,B,G⟩:=p;obtain⟨a,b,px,cx,pk,ck,rfl,⟨i0,i1,i2,i3⟩,⟨BQ,AJ⟩,⟨B4,AK⟩,⟨B5,AL⟩⟩:=h.poolV;have HC:=qh AJ;have HX:=qh AK;have HK:=qh AL;have HI:D (Qqm f/\Qqm C/\Qqm E/\Qqm G):=qh (⟨i0,i1,i2,i3⟩);have HZ:D ((Z6 (cs,f,(C,E),Qz B)).length+(Vi B).length<=10000000):=qh (hz);have B6:D ((Qz B).length<=10000000):=qh (AI);have HV:D (J2 ((cs,f,(C,E),xs),B,G)=((Qqz B.length 1 4 && xs.length==0) && (B.all (Zw B.length) && ((((B.countP Y3:Nat):Int)==G) && Q0g (cs,f,(C,E),Qz B) (Vi B) (Qz B))))):=qh (rfl);have BR:=i3.bd;unfold Bp at B5 B4;clear h AJ AK AL hz AI i0 i1 i2 i3;obtain⟨K,A3⟩:∃K,K=w.alloc (.cells #[A a cs.length b,I Z f,I Z C,I Z E,A px xs.length cx,A pk B.length ck,I Z G] 46):=⟨_,rfl⟩;have U:D (Bi w.heap.size w K):=qh (by rw[A3];go_grown);have AM:D (K.heap[w.heap.size]?=R (.cells #[A a cs.length b,I Z f,I Z C,I Z E,A px xs.length cx,A pk B.length ck,I Z G] 46 (0,0))):=qh (by rw[A3];exact Bg w _);have A4:=qh A3;clear A3;have A5:D (∀W,Bi K.heap.size K W->W.heap[w.heap.size]?=R (.cells #[A a cs.length b,I Z f,I Z C,I Z E,A px xs.length cx,A pk B.length ck,I Z G] 46 (0,0))):=qh (λW F=>Qe AM.o F);have AN:D (∀W,Bi K.heap.size K W->At Qr W w.heap.size 0 ((cs,f,(C,E),xs),B,G)):=qh (λW F=>At.ofBox (us:=[A a cs.length b,I Z f,I Z C,I Z E,A px xs.length cx,A pk B.length ck,I Z G]) (A5.o W F) (H.o.kept (Am (Q0 U.o F))));obtain⟨d,k,m,n,o,r,s⟩:=Q2t AM.o;by_cases q0:B.length<1
 ·have V:D (J2 ((cs,f,(C,E),xs),B,G)=Bm):=qh (by
   rw[HV.o,show Qqz B.length 1 4=Bm from Q0h.2 (by omega)];rfl)
  have AO:(B.length:Int)<1:=by omega
  go_enter func61,ntmps61;go_upto_region 1 with fail
  rw[<-A4.o];go_wp2;go_ret;exact⟨Q2 V.o.symm,U.o⟩
 have AO:¬(B.length:Int)<1:=by omega
 by_cases q1:4<B.length
 ·have V:D (J2 ((cs,f,(C,E),xs),B,G)=Bm):=qh (by
   rw[HV.o,show Qqz B.length 1 4=Bm from Q0h.2 (by omega)];rfl)
  have AP:(4:Int)<B.length:=by omega
  go_enter func61,ntmps61;go_upto_region 1 with fail
  rw[<-A4.o];go_wp2;go_ret;exact⟨Q2 V.o.symm,U.o⟩
 have AP:¬(4:Int)<B.length:=by omega
 by_cases q2:0<xs.length
 ·have V:D (J2 ((cs,f,(C,E),xs),B,G)=Bm):=qh (by
   rw[HV.o,show(xs.length==0)=Bm by rw[beq_eq_false_iff_ne];omega];simp)
  have AQ:(0:Int)<xs.length:=by omega
  go_enter func61,ntmps61;go_upto_region 1 with fail
  rw[<-A4.o];go_wp2;go_ret;exact⟨Q2 V.o.symm,U.o⟩
 have AQ:¬(0:Int)<xs.length:=by omega
 have V:D (J2 ((cs,f,(C,E),xs),B,G)=(B.all (Zw B.length) && ((((B.countP Y3:Nat):Int)==G) && Q0g (cs,f,(C,E),Qz B) (Vi B) (Qz B)))):=qh (by rw[HV.o,show Qqz B.length 1 4=Bn from Ql.2 (by omega),show(xs.length==0)=Bn by rw[beq_iff_eq];omega];rfl);have BS:B.length<=4:=by omega
 go_enter func61,ntmps61;go_upto_region 1 with fail
 rw[<-A4.o];go_upto_region 5 with fail
 clear q0 q1 q2 AO AP AQ d k m n o r s;go_loopw [3,27] (λu i wr=>∃(j:Nat),j<=B.length/\i=I Z j/\u=I Z (((B.take j).countP Y3:Nat):Int)/\D (∀q (g:q<B.length),q<j->Zw B.length B[q]=Bn)/\D (Bi K.heap.size K wr)) (λ_ i _=>B.length-(Bv i).toNat);case atStart=>exact⟨0,Ak _,rfl,by simp,λq _ h=>absurd h (Nat.not_lt_zero _),Ai _ _⟩
 case round=>
  obtain⟨j,hj,rfl,rfl,AR,HB⟩:=hrel;obtain⟨d,k,m,n,o,r,s⟩:=Q2t (A5.o _ HB.o);have A8:=Ac wr _ d;simp only at A8;by_cases A9:j<B.length
  ·obtain⟨b1,o1,rfl,hA⟩:=Rd.elem (HK.o.kept (Am (Q0 U.o HB.o))) j A9
   have HS:=qh (Q86 (p:=Y3) A9);have AS:=Dc (p:=Y3) (l:=B.take j);rw[Cj]at AS;have B7:D (B[j]∈B):=qh (As A9);have B8:D (∀q (g:q<B.length),q<j+1->Zw B.length B[j]=Bn->Zw B.length B[q]=Bn):=qh (λq g AT h=>by
    by_cases e:q=j
    ·subst e;exact h
    ·exact AR.o q g (by omega))
   generalize B[j]=x at *
   obtain⟨M,O,P,S,T⟩:=x;obtain⟨t,v,y,z,A0,A1,⟨e0,e1,e2,e3,e4⟩,-,-,-,-⟩:=hA.worker;have HA:=qh (hA.rdvW e2 e3 e4);simp only[Ty.sz,Nat.reduceAdd]at e0 e1 e2 e3 e4;have AU:=Ac wr _ e0;simp only at AU;generalize A6:(B.take j).countP Y3=cn at *
   clear hA A6;go_upto_region 7 with fail
   refine Qq ?_;intro J Y;have A7:D (Bi wr.heap.size wr J):=qh (by rw[Y];go_grown);have A2:=qh (Q0 HB.o A7.o);obtain⟨g0,g1,g2,g3,g4⟩:=Q0n wr (I Z M) (I Z O) (A t P.length v) (A y S.length z) (A A0 T.length A1) 99;rw[<-Y]at g0 g1 g2 g3 g4;clear Y e0 e1 e2 e3 e4 AU d k m n o r s A8;obtain⟨d,k,m,n,o,r,s⟩:=Q2t (A5.o _ A2.o);have AA:D (∀W,Bi J.heap.size J W->Rd Qc W [I Z M,I Z O,A t P.length v,A y S.length z,A A0 T.length A1] (M,O,P,S,T)):=qh (λW F=>HA.o.kept (Am (Q0 A7.o F)));have B9:D (J.cell? ⟨wr.heap.size,0,N⟩=R (I Z M)/\J.cell? ⟨wr.heap.size,1,N⟩=R (I Z O)/\J.cell? ⟨wr.heap.size,2,N⟩=R (A t P.length v)/\J.cell? ⟨wr.heap.size,3,N⟩=R (A y S.length z)/\J.cell? ⟨wr.heap.size,4,N⟩=R (A A0 T.length A1)):=qh (⟨g0,g1,g2,g3,g4⟩);cases hok:Zw B.length (M,O,P,S,T)with
   |false=>
    have HO:=qh hok;have HF:D (J2 ((cs,f,(C,E),xs),B,G)=Bm):=qh (by rw[V.o,Q6t B7.o hok];rfl);go_wp2_with((go_at_call 108;(with_reducible refine(Q92 _ [I Z M,I Z O,A t P.length v,A y S.length z,A A0 T.length A1] _ B.length (AA.o _ (Ai _ _))).mono ?_);rintro e w6 ⟨rfl,F⟩;have L:=qh F;clear F;rw[HO.o]))
    go_ret;exact⟨Q2 HF.o.symm,Q0 (Q0 U.o A2.o) L.o⟩
   |true=>
    have HO:=qh hok;clear hok;cases hac:Y3 (M,O,P,S,T)
    all_goals
     have AV:=qh hac;clear hac;go_wp2_with(first|((go_at_call 108;(with_reducible refine(Q92 _ [I Z M,I Z O,A t P.length v,A y S.length z,A A0 T.length A1] _ B.length (AA.o _ (Ai _ _))).mono ?_);rintro e w6 ⟨rfl,F⟩;have L:=qh F;clear F;rw[HO.o];obtain⟨g0,g1,g2,g3,g4⟩:=B9.o;have g0:=(Am L.o).cell _ _ g0;have g1:=(Am L.o).cell _ _ g1;have g2:=(Am L.o).cell _ _ g2;have g3:=(Am L.o).cell _ _ g3;have g4:=(Am L.o).cell _ _ g4))|((go_at_call 110;(with_reducible refine(Qk3 _ [I Z M,I Z O,A t P.length v,A y S.length z,A A0 T.length A1] _ (AA.o _ L.o)).mono ?_);rintro e w7 ⟨rfl,F⟩;have BA:=qh (Q0 L.o F);clear F;rw[AV.o]))|((go_at_call 109;(with_reducible refine(Q2g _ _).mono ?_);rintro e w8 ⟨rfl,rfl⟩;first|rw[show Q23 Bn=1 from rfl]|rw[show Q23 Bm=0 from rfl]))|fail)
     go_roundw;case rel=>exact⟨j+1,by omega,by go_num,by rw[HS.o,AV.o];simp,(λq g AT=>B8.o q g AT HO.o),Q0 A2.o BA.o⟩
     case measure=>simp[Bv];omega
  ·have AW:j=B.length:=by omega
   have BB:D (B.all (Zw B.length)=Bn):=qh (Q6w λq g=>AR.o q g (by omega));have A6:(B.take j).countP Y3=B.countP Y3:=by rw[AW,List.take_length]
   rw[A6];have AX:D (J2 ((cs,f,(C,E),xs),B,G)=((((B.countP Y3:Nat):Int)==G) && Q0g (cs,f,(C,E),Qz B) (Vi B) (Qz B))):=qh (by rw[V.o,BB.o];rfl);have AS:=Dc (p:=Y3) (l:=B);generalize B.countP Y3=cn at *
   clear A6 AW;rename Bh=>wq
   go_upto_region 12 with fail
   refine Qq ?_;intro J Y;have A7:D (Bi wq.heap.size wq J):=qh (by rw[Y];go_grown);have BC:D (J.heap[wq.heap.size]?=R (.cells #[A a cs.length b,I Z f,I Z C,I Z E,A px xs.length cx] 43 (0,0))):=qh (by rw[Y];exact Bg wq _);have BD:D (wq.heap.size<J.heap.size):=qh (by rw[Y];simp);clear Y d k m n o r s A8;have A2:=qh (Q0 HB.o A7.o);have AY:D ((Qz (pW ((cs,f,(C,E),xs),B,G))).length<=100000000):=qh (by have:=B6.o;show(Qz B).length<=_;omega);have BE:D ((Vi (pW ((cs,f,(C,E),xs),B,G))).length<=100000000):=qh (by have:=HZ.o;show(Vi B).length<=_;omega);have BF:=qh (HB.o.size);have BT:=qh (U.o.size);go_upto_region 13 with((go_at_call 111;(with_reducible refine(Qhg _ w.heap.size 0 _ (AN.o _ A2.o) AY.o).mono ?_);rintro e w6 ⟨BG,rfl,ho,F⟩;have AB:D (Qqe Q4 117 J.heap.size w6 BG (Qz B)):=qh (ho);have L:=qh F;have AZ:=qh (Qe BC.o F);clear ho F;obtain⟨AC,AD,rfl,-,-⟩:=AB.o.form;obtain⟨⟨m0,m1,m2,m3,m4⟩,mf⟩:=Y0 AZ.o))
   refine Qq ?_;intro W7 AE;have B0:D (Q1 (λc=>c=wq.heap.size) w6 W7):=qh (by rw[AE];exact Jl (X:=λc=>c=wq.heap.size) (Q1.refl _ _) rfl _);have BH:D (W7.heap[wq.heap.size]?=R (.cells #[A a cs.length b,I Z f,I Z C,I Z E,A AC (Qz B).length AD] 43 (0,0))):=qh (by rw[AE];exact Qas AZ.o _);clear AE m0 m1 m2 m3 m4 mf;have B1:=qh (Q0 A2.o L.o);have AF:D (Bi K.heap.size K W7):=qh (B1.o.trans (B0.o.below B1.o.size λc hc=>by rw[hc];exact BF.o));have AG:=qh (Q0 U.o AF.o);have BI:D (Qqe Q4 117 J.heap.size W7 (A AC (Qz B).length AD) (Qz B)):=qh (AB.o.frame B0.o λi hi e=>by have:=(AB.o.block i hi).1;have:=BD.o;omega);have BJ:D (At Qo W7 wq.heap.size 0 (cs,f,(C,E),Qz B)):=qh (At.ofBox (us:=[A a cs.length b,I Z f,I Z C,I Z E,A AC (Qz B).length AD]) BH.o (Qce (HC.o.kept (Am AG.o)) HI.o.1 HI.o.2.1 HI.o.2.2.1 (BI.o.rd rfl)));obtain⟨d,k,m,n,o,r,s⟩:=Q2t (A5.o _ AF.o);have BK:D (∀c∈mC (cs,f,(C,E),Qz B),(aW c).length<=100000000):=qh (λc hc=>by have:=Qgo hc;have:=HZ.o;omega);have BL:D ((mX (cs,f,(C,E),Qz B)).length<=100000000):=qh (AY.o);by_cases qa:(cn:Int)=G
   ·have qb:((cn:Int)==G)=Bn:=by simpa using qa
    have AH:D (J2 ((cs,f,(C,E),xs),B,G)=Q0g (cs,f,(C,E),Qz B) (Vi B) (mX (cs,f,(C,E),Qz B))):=qh (by rw[AX.o,qb];rfl);clear qa;go_wp2_with(first|((go_at_call 113;(with_reducible refine(Qof _ w.heap.size 0 _ (AN.o _ AF.o) BE.o).mono ?_);rintro e w8 ⟨BM,rfl,ho,F⟩;have B2:D (Qqe Q4 40 W7.heap.size w8 BM (Vi B)):=qh (ho);have B3:=qh F;clear ho F;obtain⟨BN,BO,rfl,-,-⟩:=B2.o.form))|((go_at_call 112;(with_reducible refine(Qok _ wq.heap.size 0 _ (Vi B) BN BO (BJ.o.kept (Am B3.o)) (B2.o.rd rfl) HZ.o BK.o BL.o).mono ?_);rintro e w9 ⟨rfl,F⟩;have BP:=qh F;clear F))|fail)
    go_ret;exact⟨Q2 (by rw[AH.o]),Q0 (Q0 AG.o B3.o) BP.o⟩
   ·have qb:((cn:Int)==G)=Bm:=by simpa using qa
    have AH:D (J2 ((cs,f,(C,E),xs),B,G)=Bm):=qh (by rw[AX.o,qb];rfl);go_wp2_with fail
    go_ret;exact⟨Q2 AH.o.symm,AG.o⟩
theorem Q6f(w:Bh)(C:Option Cm)(E:Nat)(bk:List Qr2)(vs:List Bk)(p:J9)(B:Rd (.slice Je) w [A C bk.length E] bk)(h:Rd Qr w vs p)(G:(Z6 (pM p)).length+(Vi (pW p)).length<=10000000)(J:(Qz (pW p)).length<=10000000):
  Bq prog 28 #[A C bk.length E,.agg vs.toArray] w λe w'=>e=.returned (.bool (Q0u bk && J2 p))/\Bi w.heap.size w w':=by
 have H:=qh h;have O:=qh B;obtain⟨P,S⟩:∃P,P=p:=⟨_,rfl⟩;obtain⟨⟨cs,f,⟨T,U⟩,xs⟩,V,W⟩:=p;obtain⟨X,Y,px,cx,a,b,rfl,-⟩:=h.poolV;rw[<-S]at H G J⊢;have c:=qh (And.intro G J);clear h B G J S;cases hk:Q0u bk with
 |false=>
  have K:=qh hk;clear hk;go_enter func28,ntmps28;go_wp2_with((go_at_call 60;(with_reducible refine(Q8b _ C E bk (O.o.kept (Am (by go_grown)))).mono ?_);rintro e w1 ⟨rfl,B⟩;have F:D (Bi w.heap.size w w1):=qh (Q0 (by go_grown) B);clear B;rw[K.o]))
  go_ret;exact⟨rfl,F.o⟩
 |true=>
  have K:=qh hk;clear hk;go_enter func28,ntmps28;go_upto_region 1 with fail
  refine Qq ?_;intro d L;have M:D (Bi w.heap.size w d):=qh (by rw[L];go_grown);have g:D (d.heap[w.heap.size]?=R (.cells #[A X cs.length Y,I Z f,I Z T,I Z U,A px xs.length cx,A a V.length b,I Z W] 46 (0,0))):=qh (by rw[L];exact Bg w _);clear L;go_wp2_with(first|((go_at_call 60;(with_reducible refine(Q8b _ C E bk (O.o.kept (Am M.o))).mono ?_);rintro e w1 ⟨rfl,B⟩;have F:=qh B;have i:=qh (Qe g.o B);clear B;rw[K.o];obtain⟨C,k,l,m,n,o,q⟩:=Q2t i.o))|((go_at_call 61;(with_reducible refine(Qkp _ [A X cs.length Y,I Z f,I Z T,I Z U,A px xs.length cx,A a V.length b,I Z W] P (H.o.kept (Am (Q0 M.o F.o))) c.o.1 c.o.2).mono ?_);rintro e w2 ⟨rfl,B⟩;have j:=qh B;clear B))|fail)
  go_ret;exact⟨rfl,Q0 (Q0 M.o F.o) j.o⟩
theorem Zb{w:Bh}{b:Nat}{o:Obj}(h:w.heap[b]?=R o):b<w.heap.size:=(Al.1 h).1
def Qr3(cs:List Qb)(p:Wd):Wd:=if(Vr (Q7 cs p.1) (Q7 cs p.2)).2 then(p.2,p.1)else p
theorem Qlb{cs:List Qb}{p:Wd}(C:Zy (aK (Q7 cs p.1)) (aL (Q7 cs p.1))=Bn)(E:Zy (aK (Q7 cs p.2)) (aL (Q7 cs p.2))=Bn):
  (Vr (Q7 cs p.1) (Q7 cs p.2)).1=Z4 cs p/\(Z4 cs p≠8->Qr3 cs p=Zl cs p):=by
 obtain⟨F,G⟩:=Qlw _ _ C E;have B:(Vr (Q7 cs p.1) (Q7 cs p.2)).1=Z4 cs p:=F;refine⟨B,λH=> ?_⟩;unfold Qr3 Zl;rw[G (by rw[B];exact H)];by_cases e:V2 (aK (Q7 cs p.1)) (aL (Q7 cs p.1)) (aK (Q7 cs p.2)) (aL (Q7 cs p.2))=2
 ·rw[e];rfl
 ·rw[decide_eq_false e,show(V2 (aK (Q7 cs p.1)) (aL (Q7 cs p.1)) (aK (Q7 cs p.2)) (aL (Q7 cs p.2))==2)=Bm by simpa using e]
theorem Qat(w:Bh)(b o:Nat)(m:Qqp)(h:At Qo w b o m)(p q:Int)(T:Qq9 (mC m) (p,q))(Y:(aW (Q7 (mC m) p)).length<=100000000)(a:(aW (Q7 (mC m) q)).length<=100000000):
  Bq prog 207 #[.pointer (R ⟨b,o,N⟩),.agg #[I Z p,I Z q]] w λe w'=>e=.returned (.tuple #[I Z (Vr (Q7 (mC m) p) (Q7 (mC m) q)).1,I Z (Qr3 (mC m) (p,q)).1,I Z (Qr3 (mC m) (p,q)).2])/\Bi w.heap.size w w':=by
 have d:=qh h;have f:=qh T;clear h;obtain⟨r,E⟩:∃r,Vr (Q7 (mC m) p) (Q7 (mC m) q)=r:=⟨_,rfl⟩;have g:D (Qr3 (mC m) (p,q)=if r.2 then(q,p)else(p,q)):=qh (by unfold Qr3;rw[<-E]);have i:=qh E;rw[E];clear T E;obtain⟨c,s⟩:=r;go_enter func207,ntmps207;go_upto_region 1 with fail
 refine Qq ?_;intro W F;have U:D (Bi w.heap.size w W):=qh (by rw[F];go_grown);have L:W.heap[w.heap.size]?=R (.cells #[I Z p,I Z q] 117 (0,0)):=by rw[F];exact Bg w _
 have x:=qh L;obtain⟨⟨B,G⟩,-⟩:=Za L;have y:D (W.heap.size=w.heap.size+1):=qh (by rw[F];simp);clear F L;go_upto_region 2 with((go_at_call 237;(with_reducible refine(Qls W b o m (d.o.kept (Am U.o)) p q f.o Y a).mono ?_);rintro e w1 ⟨vs,rfl,H,C⟩;obtain⟨V,X,rfl,-,-,H⟩:=J6 H;have j:=qh H;have M:=qh C;clear H C))
 refine Qq ?_;intro J O;have K:D (Bi w1.heap.size w1 J):=qh (by rw[O];go_grown);have P:J.heap[w1.heap.size]?=R (.cells #[A V (Qi4 m p q).length X] 71 (0,0)):=by rw[O];exact Bg w1 _
 have k:D (At Je J w1.heap.size 0 (Qi4 m p q)):=qh (At.ofBox (us:=[A V (Qi4 m p q).length X]) P (j.o.kept (Am K.o)));have l:=qh (Q0 (Q0 U.o M.o) K.o);have B:=(Am (Q0 M.o K.o)).cell _ _ B;have G:=(Am (Q0 M.o K.o)).cell _ _ G;have z:=Zb P;have n:D (((0:Int)<=0/\(0:Int)<(Qi4 m p q).length)/\(0:Int)<=1/\(1:Int)<(Qi4 m p q).length):=qh (by simp[Qi4]);clear O P;go_upto_region 3 with((go_at_call 240;(with_reducible refine(Qem J w1.heap.size 0 (Qi4 m p q) k.o 0 1 n.o).mono ?_);rintro e t ⟨rfl,C⟩;rw[show Vr (Q7 (Qi4 m p q) 0) (Q7 (Qi4 m p q) 1)=(c,s)from i.o];have S:=qh C;clear C))
 have B:=(Am S.o).cell _ _ B;have G:=(Am S.o).cell _ _ G;have u:=qh (Q0 l.o S.o);have v:=Ac t _ B;simp only at v;cases s
 all_goals
  go_wp2_with fail
  go_quiet(fail)
  go_wp2;refine Ca (by simp[results,results207,go_sem];first|rfl|done) rfl ?_;refine⟨?_, ?_⟩
  ·rw[g.o];rfl
  ·first|exact Q6 u.o _|go_grown
theorem Qe9{B C:List Nat}{c:Nat}(E:B.Nodup)(F:C.Nodup)(G:∀b∈B,b<c)(H:∀b∈C,c<=b):(B++C).Nodup:=by
 rw[Ba];exact⟨E,F,λa J b K e=>by have:=G a J;have:=H b K;omega⟩
theorem Qi0{B C:List Nat}(h:(B++C).Nodup):(C++B).Nodup:=by
 rw[Ba]at *
 exact⟨h.2.1,h.1,λa E b F e=>h.2.2 b F a E e.symm⟩
theorem Qqa.agentA{B:Nat}{w1 F:Bh}{k l v:Int}{J K:Option Cm}{L M O P:Nat}{d:List Int}{ws:List Wd}(G:Qqm k/\Qqm l/\Qqm v)(T:Qqa (.slice .int) B w1 [A J L M] d)(U:Qqa (.slice Q4) w1.heap.size F [A K O P] ws)(S:Bi w1.heap.size w1 F)(V:B<=w1.heap.size):
  Qqa Q3 B F [I Z k,I Z l,I Z v,A J L M,A K O P] (k,l,v,d,ws):=by
 obtain⟨W,X,Y,E⟩:=T;obtain⟨a,c,e,H⟩:=U;refine⟨W++a,Ow.mkAgent G.1 G.2.1 G.2.2 (X.kept λb C=>S.block b (E b C).2) c,Qe9 Y e (λb C=>(E b C).2) (λb C=>(H b C).1),λb C=> ?_⟩;rcases At0.1 C with C|C
 ·exact⟨(E b C).1,Ap (E b C).2 S.size⟩
 ·exact⟨Au V (H b C).1,(H b C).2⟩
theorem Qqa.agentB{B:Nat}{w1 F:Bh}{k l v:Int}{J K:Option Cm}{L M O P:Nat}{d:List Int}{ws:List Wd}(G:Qqm k/\Qqm l/\Qqm v)(T:Qqa (.slice .int) w1.heap.size F [A J L M] d)(U:Qqa (.slice Q4) B w1 [A K O P] ws)(S:Bi w1.heap.size w1 F)(V:B<=w1.heap.size):
  Qqa Q3 B F [I Z k,I Z l,I Z v,A J L M,A K O P] (k,l,v,d,ws):=by
 obtain⟨W,X,Y,H⟩:=T;obtain⟨a,c,e,E⟩:=U;refine⟨W++a,Ow.mkAgent G.1 G.2.1 G.2.2 X (c.kept λb C=>S.block b (E b C).2),Qi0 (Qe9 e Y (λb C=>(E b C).2) (λb C=>(H b C).1)),λb C=> ?_⟩;rcases At0.1 C with C|C
 ·exact⟨Au V (H b C).1,(H b C).2⟩
 ·exact⟨(E b C).1,Ap (E b C).2 S.size⟩
theorem Qdk(w:Bh)(vs:List Bk)(x:Qb)(h:Rd Q3 w vs x)(U:(aD x).length<=100000000/\(aW x).length<=100000000):
  Bq prog 267 #[.agg vs.toArray] w (Q24 Q3 w x):=by
 obtain⟨k,l,v,d,ws⟩:=x;obtain⟨V,X,a,b,rfl,f,⟨-,d2,n⟩,⟨-,w2,o⟩⟩:=h.agentV;have p:d.length<=100000000:=U.1;have q:ws.length<=100000000:=U.2;have r:=qh f;have HD:=qh n;have HW:=qh o;unfold Bp at d2 w2;clear h U n o f;go_enter func267,ntmps267;go_upto_region 1 with fail
 refine Qq ?_;intro W M;have g:D (Bi w.heap.size w W):=qh (by rw[M];go_grown);have O:=Jn w #[I Z k,I Z l,I Z v,A V d.length X,A a ws.length b] #[I Z 0,I Z 0,I Z 0,A N 0 0,A N 0 0] 128 128;rw[<-M]at O;have s:=qh O.1;have A1:=qh O.2;obtain⟨⟨k0,k1,k2,k3,k4⟩,kf⟩:=Y0 s.o;have t:D (W.heap.size=w.heap.size+2):=qh (by rw[M];simp);have A7:w.heap.size<W.heap.size:=by have:=t.o;omega
 clear M O;have J:D (Bi W.heap.size W W.drew):=qh ((Ai _ _).drew);have u:D (∀E,Bi W.heap.size W E->Rd (.slice .int) E [A V d.length X] d):=qh (λE B=>HD.o.kept (Am (Q0 g.o B)));have y:D (∀E,Bi W.heap.size W E->Rd (.slice Q4) E [A a ws.length b] ws):=qh (λE B=>HW.o.kept (Am (Q0 g.o B)));have P:D (∀E,Bi W.heap.size W E->E.heap[w.heap.size]?=R (.cells #[I Z k,I Z l,I Z v,A V d.length X,A a ws.length b] 128 (0,0))):=qh (λE B=>Qe s.o B)
 go_region_with
  (first
   |((go_at_call 270;(with_reducible refine(Q9l w1 _ ws (y.o _ S.o) q).mono ?_);rintro e L ⟨v2,rfl,C,B⟩;obtain⟨pb,F,rfl⟩:=Jo C;have z:=qh (Qqa.agentA r.o A2.o C B S.o.size);have K:=qh (Q0 S.o B);obtain⟨⟨s0,s1,s2,s3,j⟩,sf⟩:=Y0 (P.o _ K.o);clear C B))
   |((go_at_call 117;(with_reducible refine(Q02 w2 _ d (u.o _ T.o) p).mono ?_);rintro e L ⟨v2,rfl,C,B⟩;obtain⟨G,H,rfl⟩:=Jo C;have z:=qh (Qqa.agentB r.o C A3.o B T.o.size);have K:=qh (Q0 T.o B);obtain⟨⟨s0,s1,s2,s3,j⟩,sf⟩:=Y0 (P.o _ K.o);clear C B))
   |((go_at_call 117;(with_reducible refine(Q02 _ _ d (u.o _ J.o) p).mono ?_);rintro e w1 ⟨v1,rfl,C,B⟩;obtain⟨G,H,rfl⟩:=Jo C;have A2:=qh (C.lo (show W.heap.size<=_ from J.o.size));have S:=qh (Q0 J.o B);obtain⟨⟨r0,r1,r2,r3,r4⟩,rf⟩:=Y0 (P.o _ S.o);clear C B))
   |((go_at_call 270;(with_reducible refine(Q9l _ _ ws (y.o _ J.o) q).mono ?_);rintro e w2 ⟨v1,rfl,C,B⟩;obtain⟨pb,F,rfl⟩:=Jo C;have A3:=qh (C.lo (show W.heap.size<=_ from J.o.size));have T:=qh (Q0 J.o B);obtain⟨⟨r0,r1,r2,r3,r4⟩,rf⟩:=Y0 (P.o _ T.o);clear C B))
   |fail)
 all_goals
  have m:=Qe A1.o K.o;obtain⟨⟨z0,z1,z2,z3,z4⟩,zf⟩:=Y0 m;go_wp2_with fail
  have A0:Q1 (λc=>c=w.heap.size) L ((L.setCell ⟨w.heap.size,3,N⟩ (A G d.length H)).setCell ⟨w.heap.size,4,N⟩ (A pb ws.length F)):=Q16 (Q16 (Q1.refl _ _));have A4:((L.setCell ⟨w.heap.size,3,N⟩ (A G d.length H)).setCell ⟨w.heap.size,4,N⟩ (A pb ws.length F)).heap[w.heap.size+1]?=R (.cells #[I Z 0,I Z 0,I Z 0,A N 0 0,A N 0 0] 128 (0,0)):=(A0.block _ (Zb m) (by omega)).trans m;have A5:=Q22 A4 (I Z k) (I Z l) (I Z v) (A G d.length H) (A pb ws.length F);have A6:=Vz ((L.setCell ⟨w.heap.size,3,N⟩ (A G d.length H)).setCell ⟨w.heap.size,4,N⟩ (A pb ws.length F)) (w.heap.size+1) 0 (I Z k) (I Z l) (I Z v) (A G d.length H) (A pb ws.length F);have hF:=(A0.mono (Y:=λc=>c=w.heap.size\/c=w.heap.size+1) λ_ h=> .inl h).trans (A6.mono λ_ h=> .inr h);have A8:=t.o;refine Ca (v:=.agg #[I Z k,I Z l,I Z v,A G d.length H,A pb ws.length F]) (by obtain⟨⟨s0,s1,s2,s3,j⟩,-⟩:=Y0 A5;simp[results,results267,go_sem,s0,s1,s2,s3,j]) rfl ?_;refine⟨[_,_,_,_,_],rfl,(z.o.frame hF (λi f=>by omega)).lo (by omega), ?_⟩;exact(Q0 g.o K.o).trans (hF.below (by have:=K.o.size;omega) (λc hc=>by omega))
def Q77(t:Ty)(P:Nat->Prop)(w:Bh)(vs:List Bk)(x:t.den):Prop:=∃F,Ow t w vs x F/\F.Nodup/\∀b∈F,P b/\b<w.heap.size
theorem Q77.mono{t:Ty}{P Q:Nat->Prop}{w:Bh}{vs:List Bk}{x:t.den}(h:Q77 t P w vs x)(k:∀b,P b->Q b):Q77 t Q w vs x:=
 let ⟨F,o,n,r⟩:=h;⟨F,o,n,λb B=>⟨k b (r b B).1,(r b B).2⟩⟩
theorem Q77.new{t:Ty}{P:Nat->Prop}{B:Nat}{w:Bh}{vs:List Bk}{x:t.den}(h:Q77 t P w vs x)(k:∀b,P b->B<=b):Qqa t B w vs x:=
 let ⟨F,o,n,r⟩:=h;⟨F,o,n,λb C=>⟨k b (r b C).1,(r b C).2⟩⟩
theorem Q77.frame{t:Ty}{P:Nat->Prop}{w w':Bh}{vs:List Bk}{x:t.den}{X:Nat->Prop}(h:Q77 t P w vs x)(k:Q1 X w w')(hX:∀i,X i->¬P i):Q77 t P w' vs x:=
 let ⟨F,o,n,r⟩:=h;⟨F,o.frame k λb B=>⟨(r b B).2,λe=>hX b e (r b B).1⟩,n,λb B=>⟨(r b B).1,Ap (r b B).2 k.size⟩⟩
theorem Q77.kept{t:Ty}{P:Nat->Prop}{w w':Bh}{vs:List Bk}{x:t.den}(h:Q77 t P w vs x)(C:Bi w.heap.size w w'):Q77 t P w' vs x:=
 let ⟨F,o,n,r⟩:=h;⟨F,o.kept λb B=>C.block b (r b B).2,n,λb B=>⟨(r b B).1,Ap (r b B).2 C.size⟩⟩
theorem Q77.room{e:Ty}{P:Nat->Prop}{w:Bh}{g B:Nat}{C:Array Bk}{T:Cf}(h:w.heap[g]?=R (.cells C T (0,0)))(J:B * e.sz<=C.size)(E:B<=Bp)(F:P g):Q77 (.slice e) P w [A (R ⟨g,0,N⟩) 0 B] []:=
 ⟨[g],⟨_,rfl,.inr ⟨g,0,B,C,T,[],rfl,Ak _,E,h,by omega,rfl,rfl,λi G=>by simp at G⟩⟩,by simp,λb H=>by
  obtain rfl:b=g:=by simpa using H
  exact⟨F,(Al.1 h).1⟩⟩
theorem Q4n{P:Eq}(w:Bh){e:Ty}(E S L:Cf)(i:Gt)(z:Bk)(M:Nat)(Y:P.underlying E=R (.slice L))(O:P.info? L=R i)(a:i.zero=R z)
  (d:i.size=e.sz) (f:i.bytes=M) (k:z.cells.size=e.sz) (l:M<=200) {H:Nat->Prop} {C:Bh} {v:Bk} {xs:List e.den} {y:e.den} {vs:List Bk} (g c:Nat)
  (m:Q77 (.slice e) H C [v] xs) (T:∀b,C.heap.size<=b->H b) (U:Bi C.heap.size C w) (n:Qqa e C.heap.size w vs y) (o:Qqw w g 0 vs) (q:∀u∈vs,u.oneCell'=Bn) (r:xs.length+1<=1000000000):
  ∃(p:Option Cm) (J:Nat) (w':Bh),(Builtin.append_ #[E,E] S #[v,A (R ⟨g,0,N⟩) 1 c]).run P w=.ok (A p (xs.length+1) J) w'/\Q77 (.slice e) H w' [A p (xs.length+1) J] (xs++ [y])/\Q1 (λc=>H c/\c<C.heap.size) w w':=by
 obtain⟨F,s,t,K⟩:=m;obtain⟨G,V,x,W⟩:=n;have hl:=V.length
 obtain⟨p,J,w',F',h2,X,h4,h5,h6⟩:=Q3u (P:=P) w (e:=e) E S L i z M Y O a d f k l (xs:=xs) (ys:=[y]) (Gs:=[G]) (s.kept λb B=>U.block b (K b B).2) t ⟨g,0,N⟩ 1 c rfl vs (by rw[hl];simp)
  (λj u hj=>by
   obtain⟨A0,he⟩:=List.getElem?_eq_some_iff.1 hj;have:=o j A0;have A1:(⟨g,0,N⟩:Cm).add j=⟨g,0+j,N⟩:=by unfold Addr.add;split<;>simp_all
   rw[A1,this,he]) q rfl
  (λi O=>by
   obtain rfl:i=0:=by simpa using O
   have:(vs.drop (0 * e.sz)).take e.sz=vs:=by rw[Nat.zero_mul,List.drop_zero,Ao (by omega)]
   rw[this];exact V) (by simpa using x)
  (λb B A2=>by simp only[Hm,List.flatten_nil,Co]at B;have:=(K b A2).2;have:=(W b B).1;omega) (by omega) r
 refine⟨p,J,w',h2,⟨F',X,h4,λb B=>⟨?_,X.lt b B⟩⟩,h6.mono λb B=>K b B⟩;have A3:=U.size;rcases h5 b B with h|h|h
 ·exact(K b h).1
 ·simp only[Hm,List.flatten_nil,Co]at h
  exact T b (W b h).1
 ·exact T b (by omega)
theorem Q8j{P:Eq}(w:Bh){G:Array Oper}{o:Oper}{a:Act}{K:Act->Bh->Prop}{Q:Exit->Act->Bh->Prop}{E:Prop}(H:o.guard=N)(s x:Operand)(B:Cf)
  (J:o.op=Op.call {callee:=Callee.builtin Builtin.append,args:=#[s,x],argTypes:=#[B,B]}) {e:Ty} (eT:Cf) (i:Gt) (z:Bk) (bytes:Nat) (ht:P.underlying B=R (.slice eT)) (hi:P.info? eT=R i) (hz:i.zero=R z)
  (hsize:i.size=e.sz) (hby:i.bytes=bytes) (hzs:z.cells.size=e.sz) (hb:bytes<=200) {C:Nat->Prop} (w0:Bh) {v:Bk} {xs:List e.den} {y:e.den} {vs:List Bk} (g c:Nat) (hv:a.eval s=v) (hu:a.eval x=A (R ⟨g,0,N⟩) 1 c)
  (hnew:Q77 (.slice e) C w0 [v] xs) (hR:∀b,w0.heap.size<=b->C b) (hbel:Bi w0.heap.size w0 w) (hvs:Qqa e w0.heap.size w vs y) (hcells:Qqw w g 0 vs) (h1:∀u∈vs,u.oneCell'=Bn) (hlen:xs.length+1<=1000000000)
  (hK:∀p F w',Q77 (.slice e) C w' [A p (xs.length+1) F] (xs++ [y])->Q1 (λc=>C c/\c<w0.heap.size) w w'->K (a.put o.dst (A p (xs.length+1) F)) w'):if Region.wanted o (yielded G a.tmps)=Bn then Oper.wp P o a w K Q else E:=by
 have L:Region.wanted o (yielded G a.tmps)=Bn:=by simp[Region.wanted,H]
 rw[if_pos L];obtain⟨p,F,w',M,O,S⟩:=Q4n (P:=P) w B o.type eT i z bytes ht hi hz hsize hby hzs hb g c hnew hR hbel hvs hcells h1 hlen;unfold Oper.wp;simp[execOp,J,resolve,invoke,builtin,hv,hu,M,Result.andThen];exact hK p F w' O S
theorem Q6p{P:Eq}(w:Bh){F:Array Oper}{rest:List Oper}{o:Oper}{a:Act}{Q:Exit->Act->Bh->Prop}(G:o.guard=N)(s x:Operand)(B:Cf)
  (H:o.op=Op.call {callee:=Callee.builtin Builtin.append,args:=#[s,x],argTypes:=#[B,B]}) {e:Ty} (eT:Cf) (i:Gt) (z:Bk) (bytes:Nat) (ht:P.underlying B=R (.slice eT)) (hi:P.info? eT=R i) (hz:i.zero=R z)
  (hsize:i.size=e.sz) (hby:i.bytes=bytes) (hzs:z.cells.size=e.sz) (hb:bytes<=200) {C:Nat->Prop} (w0:Bh) {v:Bk} {xs:List e.den} {y:e.den} {vs:List Bk} (g c:Nat) (hv:a.eval s=v) (hu:a.eval x=A (R ⟨g,0,N⟩) 1 c)
  (hnew:Q77 (.slice e) C w0 [v] xs) (hR:∀b,w0.heap.size<=b->C b) (hbel:Bi w0.heap.size w0 w) (hvs:Qqa e w0.heap.size w vs y) (hcells:Qqw w g 0 vs) (h1:∀u∈vs,u.oneCell'=Bn) (hlen:xs.length+1<=1000000000)
  (hK:∀p E w',Q77 (.slice e) C w' [A p (xs.length+1) E] (xs++ [y])->Q1 (λc=>C c/\c<w0.heap.size) w w'->wpList P F Q rest (a.put o.dst (A p (xs.length+1) E)) w'):wpList P F Q (o::rest) a w:=by
 refine wpList_plain G λK J=> ?_;obtain⟨p,E,w',L,M,O⟩:=Q4n (P:=P) w B o.type eT i z bytes ht hi hz hsize hby hzs hb g c hnew hR hbel hvs hcells h1 hlen;unfold Oper.wp;simp[execOp,H,resolve,invoke,builtin,hv,hu,L,Result.andThen];exact J _ _ (hK p E w' M O)
theorem Q82:(prog.info? 128).map (λi=>(i.zero,i.size,i.bytes))=R (R (Value.agg #[I Z 0,I Z 0,I Z 0,A N 0 0,A N 0 0]),5,72):=by kernel_rfl
theorem Qc2(w:Bh)(n:Nat)(H:n<=1000000000):(Instr.makeSlice 69 (I Z 0) (I Z (n:Int))).run prog w=.ok (A (R ⟨w.heap.size,0,N⟩) 0 n) (w.alloc (.cells (Dh (Value.agg #[I Z 0,I Z 0,I Z 0,A N 0 0,A N 0 0]).cells (n * 5)) 128)):=by
 obtain⟨B,C,E,F,G⟩:=info_parts Q82;have:=run_make (P:=prog) w 69 128 B (Value.agg #[I Z 0,I Z 0,I Z 0,A N 0 0,A N 0 0]) underlying69 C E Z Z (0:Int) (n:Int) (by omega) (by omega) (by rw[G];omega) (by omega);rw[F]at this;simpa using this
theorem Qet(v:Bk)(n:Nat):(Dh v.cells n).size=n:=by simp[Dh]
theorem Qhq(w:Bh)(vs:List Bk)(n:List Qb)(h:Rd Je w vs n)(U:n.length<=1000000)(hz:∀x∈n,(aD x).length<=100000000/\(aW x).length<=100000000):
  Bq prog 263 #[.agg vs.toArray] w (Q24 Je w n):=by
 obtain⟨M,O,rfl,-,-,hr⟩:=J6 h;have HN:=qh hr;have HZ:=qh hz;have A9:=λW=>Qc2 W n.length (by omega);have B2:(n.length:Int)<=9223372036854775807:=by omega
 clear h hr hz;go_enter func263,ntmps263;go_upto_region 2 with fail
 refine Qq ?_;intro W J;have A1:D (Bi w.heap.size w W):=qh (by rw[J];go_grown);have AA:D (W.heap.size=w.heap.size+1+1+1+1):=qh (by rw[J];simp);have AB:D (W.heap[w.heap.size]?=R (.cells #[A M n.length O] 71 (0,0))):=qh (by rw[J];exact Qw (Qw (Jn w _ _ _ _).1));have AC:D (W.heap[w.heap.size+1]?=R (.cells #[A N 0 0] 71 (0,0))):=qh (by rw[J];exact Qw (Qw (Jn w _ _ _ _).2));obtain⟨r,A2,hg,hx⟩:∃r:Array Bk,r.size=n.length * 5/\W.heap[w.heap.size+1+1]?=R (.cells r 128 (0,0))/\W.heap[w.heap.size+1+1+1]?=R (.cells #[A (R ⟨w.heap.size+1+1,0,N⟩) 0 n.length] 71 (0,0)):=by have P:=Jn ((w.alloc (.cells #[A M n.length O] 71)).alloc (.cells #[A N 0 0] 71)) (Dh (Value.agg #[I Z 0,I Z 0,I Z 0,A N 0 0,A N 0 0]).cells (n.length * 5)) #[A (R ⟨w.heap.size+1+1,0,N⟩) 0 n.length] 128 71;simp only[World.size_alloc]at P;rw[J];exact⟨_,Qet _ _,P.1,P.2⟩
 have AD:=qh hx;have HG:D (Q77 (.slice Q3) (λb=>w.heap.size+1+1<=b/\b≠w.heap.size+1+1+1) W [A (R ⟨w.heap.size+1+1,0,N⟩) 0 n.length] []):=qh (Q77.room hg (by rw[A2];exact Aj _) (by unfold Bp;omega) ⟨by omega,by omega⟩);have s:W.cell? ⟨w.heap.size,0,N⟩=R (A M n.length O):=Q8 AB.o rfl;clear J hg hx A2 A9;obtain⟨ia,AE,AF,AG,AH⟩:=info_parts Q82;have B3:D (Rd (.slice Q3) W [A M n.length O] n):=qh (HN.o.kept (Am A1.o));have B4:w.heap.size+1+1+1<W.heap.size:=by have:=AA.o;omega
 go_wp2_with fail
 go_loopw [14] (λi wr=>∃(j m:Nat) (q:Option Cm) (B:Nat),j<=n.length/\i=I Z j/\D (wr.heap[w.heap.size+1+1+1]?=R (.cells #[A q m B] 71 (0,0)))/\D (Q77 (.slice Q3) (λb=>w.heap.size+1+1<=b/\b≠w.heap.size+1+1+1) wr [A q m B] (n.take j))/\D (Q1 (λc=>w.heap.size+1+1<=c) W wr)) (λi _=>n.length-(Bv i).toNat);case atStart=>exact⟨0,0,_,_,Ak _,rfl,AD.o,HG.o,Q1.refl _ _⟩
 case round=>
  obtain⟨j,m,q,B,hj,rfl,A3,V,S⟩:=hrel;have B5:=S.o.size;have A4:D (Bi w.heap.size w wr):=qh (A1.o.trans (S.o.below (by omega) (λc T=>by omega)));have s:wr.cell? ⟨w.heap.size,0,N⟩=R (A M n.length O):=(S.o.cell (b:=w.heap.size) (by omega) (by omega) 0).trans s;have x0:wr.cell? ⟨w.heap.size+1+1+1,0,N⟩=R (A q m B):=Q8 A3.o rfl;by_cases t:j<n.length
  ·obtain⟨b1,o1,rfl,Y⟩:=Rd.elem (HN.o.kept (Am A4.o)) j t
   have AI:=qh (HZ.o n[j] (As t));have A5:D (n.take (j+1)=n.take j++ [n[j]]):=qh (An t);have AJ:=qh Y;generalize n[j]=x at *
   obtain⟨k,l,v,d,ws⟩:=x;simp only[Ty.sz,Nat.reduceAdd]at Y;obtain⟨u,z,pw,cw,⟨c0,c1,c2,c3,c4⟩,E,⟨-,-,hd⟩,⟨-,-,hw⟩⟩:=Y.agent;have AK:D (∀W',Bi wr.heap.size wr W'->Rd Q3 W' [I Z k,I Z l,I Z v,A u d.length z,A pw ws.length cw] (k,l,v,d,ws)):=qh (λW' G=>Q4l E.1 E.2.1 E.2.2 (hd.kept (Am G)) (hw.kept (Am G)));clear Y hd hw E AJ;obtain⟨L,hL⟩:∃L:List Qb,L=n.take j:=⟨_,rfl⟩;rw[<-hL]at V A5;have AL:D (L.length+1<=1000000000):=qh (by rw[hL,Cj];omega);obtain⟨m',AM,AN⟩:∃m',m'=m/\m'=L.length:=by obtain⟨p9,c9,h9,_⟩:=(let ⟨F,o,_⟩:=V.o;o.gen:∃(p:Option Cm) (AO:Nat),A q m B=A p L.length AO/\_);simp only[Value.slice.injEq]at h9;exact⟨m,rfl,h9.2.1⟩
   subst AM;subst AN;clear hL;have B6:(j:Int)<n.length:=by omega
   have B7:(0:Int)<=j:=by omega
   have B8:w.heap.size+1+1+1<wr.heap.size:=by omega
   go_upto_region 5 with fail
   refine Qq ?_;intro C a;have K:D (Bi wr.heap.size wr C):=qh (by rw[a];go_grown);have B9:C.heap.size=wr.heap.size+1:=by rw[a];simp
   obtain⟨g0,g1,g2,g3,g4⟩:=Q0n wr (I Z k) (I Z l) (I Z v) (A u d.length z) (A pw ws.length cw) 128;rw[<-a]at g0 g1 g2 g3 g4;have x1:=(Am K.o).cell _ _ x0;have AP:w.heap.size+1+1+1<C.heap.size:=by omega
   clear a c0 c1 c2 c3 c4 s x0;have A6:D (Bi C.heap.size C C.drew):=qh ((Ai _ _).drew);have AQ:D (∀b,wr.heap.size<=b->(w.heap.size+1+1<=b/\b≠w.heap.size+1+1+1)):=qh (λb G=>by omega);have AR:D (wr.heap.size<=C.drew.heap.size):=qh (by have:=A6.o.size;omega)
   go_region_law
    (first
     |((refine Q8j _ rfl (.tmp 19) (.tmp 22) 69 rfl (e:=Q3) 128 ia _ 72 underlying69 AE AF AG AH rfl (by decide) wr (v:=A q L.length B) (xs:=L) (y:=(k,l,v,d,ws)) (vs:=[I Z k,I Z l,I Z v,A AS d.length AT,A AU ws.length AV]) w2.heap.size 1 rfl rfl V.o AQ.o ((Q0 K.o H.o).alloc A7.o _) (AW.o.kept (Ai _ _|>.alloc (Aj _) _)) (Q11 (Q8 (Bg w2 _) rfl) (Q8 (Bg w2 _) rfl) (Q8 (Bg w2 _) rfl) (Q8 (Bg w2 _) rfl) (Q8 (Bg w2 _) rfl)) Qpv AL.o ?_;intro p3 c3 w3 A8 f;have AX:=qh A8;have BA:=qh ((AY.o.alloc _).trans (f.mono λc T=>T.2));have A0:D (w3.heap[w.heap.size+1+1+1]?=R (.cells #[A q L.length B] 71 (0,0))):=qh ((f.block _ (by rw[Be];omega) (λP=>P.1.2 rfl)).trans (Qw (Qe (Qe A3.o K.o) H.o)));have x3:w3.cell? ⟨w.heap.size+1+1+1,0,N⟩=R (A q L.length B):=Q8 A0.o rfl;have BB:w3.frozen? ⟨w.heap.size+1+1+1,0,N⟩=Bm:=Q0f.free ⟨_,A0.o⟩ 0;have AZ:=qh ((Ay (X:=λc=>w.heap.size+1+1<=c) ((Q0 K.o H.o).alloc A7.o _)).trans (f.mono λc T=>T.1.1));clear A8 f))
     |((go_simp;go_at_call 267;(with_reducible refine(Qdk _ [I Z k,I Z l,I Z v,A u d.length z,A pw ws.length cw] (k,l,v,d,ws) (AK.o _ (K.o.drew)) AI.o).mono ?_);rintro e w2 ⟨vs,rfl,U,G⟩;obtain⟨AS,AT,AU,AV,rfl⟩:=U.agentShape;have AW:=qh (U.lo AR.o);have H:=qh (Q0 A6.o G);have AY:D (Q1 (λc=>c<wr.heap.size) C w2):=qh (Ay H.o);have A7:D (wr.heap.size<=w2.heap.size):=qh (Au K.o.size H.o.size);have x2:=(Am H.o).cell _ _ x1;have BC:w.heap.size+1+1+1<w2.heap.size:=Ap AP H.o.size;clear U G;dsimp only))
     |fail)
   all_goals
    go_wp2_with fail
    go_roundw;case rel=>exact⟨j+1,L.length+1,p3,c3,by omega,by go_num,(show _=_ from by rw[Z2 A0.o];simp),(show Q77 _ _ _ _ _ by rw[A5.o];exact AX.o.frame (X:=λc=>c=w.heap.size+1+1+1) (Q16 (Q1.refl _ _)) (λi E hp=>hp.2 E)),(show Q1 _ _ _ from(S.o.trans AZ.o).setCell (show w.heap.size+1+1<=w.heap.size+1+1+1 by omega) _)⟩
    case measure=>simp[Bv];omega
  ·have B0:n.length<=j:=by omega
   have B1:D (n.take j=n):=qh (Ao B0);have g:wr.heap[w.heap.size+1]?=R (.cells #[A N 0 0] 71 (0,0)):=(S.o.block _ (by omega) (by omega)).trans AC.o;have BD:=qh g;have r0:wr.cell? ⟨w.heap.size+1,0,N⟩=R (A N 0 0):=Q8 g rfl;have rf:wr.frozen? ⟨w.heap.size+1,0,N⟩=Bm:=Q0f.free ⟨_,g⟩ 0;clear g;go_wp2_with fail
   have s0:=World.cell?_setCell_same wr ⟨w.heap.size+1,0,N⟩ (A q m B) r0;have hF:=Q16 (o:=0) (v:=A q m B) (Q1.refl (λc=>c=w.heap.size+1) wr);refine Ca (v:=.agg #[A q m B]) (by simp[results,results263,go_sem,s0]) rfl ?_;refine⟨[_],rfl, ?_,A4.o.trans (hF.below (by omega) (λc T=>by omega))⟩;have hN:=V.o;rw[B1.o]at hN;exact(hN.frame hF (λi E hp=>by omega)).new (λb G=>by omega)
end Go.Proofs.YthbpkpnioaniiaaGreat
