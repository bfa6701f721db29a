import Derived.Test.YthbpkpnioaniiaaGreatP31
set_option maxHeartbeats 40000000
set_option maxRecDepth 100000
set_option linter.all false
namespace Go.Proofs.YthbpkpnioaniiaaGreat
open Go.RowKit Go.Proofs.Tryz
open Go.Value renaming int->I,slice->A
open Go.IntKind renaming i64->Z
open Option renaming none->N,some->R
open Bool renaming and_eq_true->Bl,true->Bn,false->Bm
open Int renaming emod_nonneg->Ga,emod_lt_of_pos->Ew
open List renaming mem_flatMap->Dk,set_set->Gi,length_set->Br,nil_append->Bt,length_drop->Df,length_nil->Ei,length_cons->Bs,mem_of_getElem?->Ha,length_append->Bo
theorem Q36{p:J9}{k:Nat}(h:Qrg p)(E:k<(pW p).length):(1<=(pW p).length/\(pW p).length<=4)/\(1<=wP (Q5 p k)/\wP (Q5 p k)<=4)/\(0<=wV (Q5 p k)/\wV (Q5 p k)<(pW p).length)/\(wL (Q5 p k)).length<=1500/\(wX (Q5 p k)).length<=1500/\(0<=pA p/\pA p<=4):=by
 obtain⟨G,L,H,M,J⟩:=Q1d h;obtain⟨O,P,-⟩:=Q4j J;have B:=H k E;unfold Zw at B;simp only[Bl,decide_eq_true_eq]at B;obtain⟨⟨C,F,-,K⟩,-⟩:=B;have C:=Ql.1 C;have F:=Ql.1 F;have:=Q9h E;have S:=List.countP_le_length (p:=Y3) (l:=pW p);exact⟨G,C,by omega,K,by omega,by omega⟩
theorem Qb0{p:J9}{k:Nat}(h:Qrg p)(E:k<(pW p).length)(F:0<(wL (Q5 p k)).length):Zh (mC (pM p)) (Q33 (Q5 p k)).1=Bn/\Zh (mC (pM p)) (Q33 (Q5 p k)).2=Bn:=by
 obtain⟨-,-,-,-,G⟩:=Q1d h;obtain⟨-,-,-,B,-⟩:=Q4j G;have H:Q33 (Q5 p k)∈wL (Q5 p k):=by unfold Q33;rw[Ab,Ad F];exact As _
 have C:∀x∈ [(Q33 (Q5 p k)).1,(Q33 (Q5 p k)).2],x∈Z6 (pM p)++Vi (pW p):=λx J=>by refine Af _ (Dk.2 ⟨Q5 p k,by rw[Q95 E];exact As _,Dk.2 ⟨_,H,J⟩⟩)
 exact⟨B _ (C _ (by simp)),B _ (C _ (by simp))⟩
theorem Q90(p:J9)(k:Nat):Q1s p k=(!(wV (Q5 p k)==(k:Int)) && decide (0<(wX (Q5 p (wV (Q5 p k)).toNat)).length)):=rfl
theorem Qh6{p:J9}{k:Nat}{y z:Qqb}:Vt (Vt p k y) k z=Vt p k z:=by unfold Vt;simp only[pM,pW,pA,Gi]
def Qmh(bk:List Qr2)(p:J9)(k:Nat)(w:World)(P:PS)(pb po:Nat)(e:Ending)(w':World):Prop:=∃kd,e=.returned (.tuple #[I Z kd,I Z (Ye bk p k).1])/\∃P',Qy w P pb po w' (Ye bk p k).2 P'
theorem Qoa(A2 w:World)(AS:Below A2.heap.size A2 w)(p0:Option Addr)(c0:Nat)(bk:List Qr2)(AT:Rd (.slice Je) A2 [A p0 bk.length c0] bk)(BS:bk.length<=maxLen)(AU:∀n∈bk,Qbv n)(AV:∀n∈bk,Ys n=Bn)(pb U:Nat)(p:J9)(P:PS)(k:Nat)(h:Zj w pb U p P)(hS:∀b∈pb::P.all,A2.heap.size<=b)(F:k<(pW p).length)(A7:Qrg p):
  Calls prog 51 #[A p0 bk.length c0,.pointer (R ⟨pb,U,N⟩),I Z k] w (Qmh bk p k w P pb U):=by
 have AF:=qh (Qy.start h);have M:D (pb<w.heap.size):=qh (h.mem.blk.lt);have BT:=Q36 A7 F;obtain⟨⟨BU,BV⟩,⟨D9,DA⟩,⟨BW,BX⟩,DB,DC,DD,DE⟩:=BT;have A0:(wV (Q5 p k)).toNat<(pW p).length:=by omega
 obtain⟨⟨cw,d5,DF⟩,S,⟨Y,i,⟨px,cx,e2⟩,pl,cl,e3⟩,c,V,DG,DH,DI⟩:=AF.o.cells F;have BY:(0:Int)<=(k:Int):=by omega
 have DJ:(k:Int)<((pW p).length:Int):=by omega
 have BZ:=qh hS;have C0:=qh AS;have HH:=qh h;have C1:=qh AT;have C2:=qh AU;have C3:=qh AV;have AW:=qh A7;have C4:=qh BS;have AX:D (0<(wL (Q5 p k)).length->_):=qh (Qb0 A7 F);clear AT AU AV A7 h hS AS;by_cases q1:0<(wL (Q5 p k)).length
 ·have E:D (Ye bk p k=(0,((Jq (pM p) (Q5 p k)).1,(pW p).set k (Jq (pM p) (Q5 p k)).2,pA p))):=qh (by unfold Ye;simp only;rw[if_pos q1])
  have AG:=qh q1;have C5:(0:Int)<(wL (Q5 p k)).length:=by omega
  have AY:D ((wL (Q5 p k)).length<=1000000/\(wX (Q5 p k)).length<=1000000):=qh (by omega);go_enter func51,ntmps51;go_wp2_with((go_at_call 94;(with_reducible refine(Qhv _ pb U p P k HH.o F AG.o AY.o.1 AY.o.2 (AX.o AG.o).1 (AX.o AG.o).2).mono ?_);rintro e w1 ⟨rfl,G⟩;have HR:=qh G;clear G))
  go_ret2
  exact⟨1,by rw[E.o]<;>rfl,by rw[E.o];exact HR.o⟩
 have C5:¬(0:Int)<(wL (Q5 p k)).length:=by omega
 by_cases q2:0<(wX (Q5 p k)).length
 ·obtain⟨l,AZ⟩:=Qh3 bk AW.o F q2
  have C6:=qh AZ;have E:D (Ye bk p k=(Q0k bk (pM p) (Q5 p k),Q3k bk p k)):=qh (by
   unfold Ye Q3k;simp only;rw[if_neg q1,if_pos q2];by_cases e:Q0k bk (pM p) (Q5 p k)=0
   ·simp[e]
   ·simp[e])
  have C7:=qh q2;have C8:(0:Int)<(wX (Q5 p k)).length:=by omega
  clear AZ;go_enter func51,ntmps51;go_wp2_with((go_at_call 95;(with_reducible refine(Qmt A2 _ C0.o p0 c0 bk C1.o C4.o C2.o C3.o pb U p P k HH.o BZ.o F C7.o l C6.o).mono ?_);rintro e w1 ⟨rfl,G⟩;have HR:=qh G;clear G))
  go_ret2
  exact⟨2,by rw[E.o]<;>rfl,by rw[E.o];exact HR.o⟩
 have C8:¬(0:Int)<(wX (Q5 p k)).length:=by omega
 have L:=qh (show Ye bk p k=(if wP (Q5 p k)==1 then(0,(pM p,(pW p).set k (Q5c (J7 (Q5 p k) 2) (Q17 (pW p).length k k)),pA p-1))
  else if wP (Q5 p k)==3 then
   if Q1s p k then(0,(pM p,((pW p).set k (J7 (J0 (Q5 p k) [(wX (Qim p k)).getD 0 (0,0)]) 1)).set (wV (Q5 p k)).toNat (J0 (Qim p k) ((wX (Qim p k)).drop 1)),pA p))
   else(0,(pM p,(pW p).set k (J7 (Q5 p k) 2),pA p-1))
  else if pA p==0 then(0,(pM p,(pW p).set k (J7 (Q5 p k) 4),pA p))
  else if Q1s p k then(0,(pM p,(pW p).set k (J7 (Q5 p k) 3),pA p+1))
  else(0,(pM p,(pW p).set k (Q5c (Q5 p k) (Q17 (pW p).length (wV (Q5 p k)) k)),pA p)))by unfold Ye;simp only;rw[if_neg q1,if_neg q2])
 have B0:∀y,(pW (Vt p k y)).length=(pW p).length:=λy=>by show((pW p).set k y).length=_;rw[Br]
 have d:=qh B0;have j:D (Qqm 1/\Qqm 2/\Qqm 3/\Qqm 4/\Qqm (pA p-1)/\Qqm (pA p+1)):=qh (by unfold Qqm;omega);have B1:D (∀a wo:Int,Qqm (Q17 (pW p).length a wo)):=qh (λa wo=>by unfold Q17 Qqm;have h1:=Ga (a+1) (show((pW p).length:Int)≠0 by omega);have H:=Ew (a+1) (show(0:Int)<((pW p).length:Int)by omega);have h3:=Ga ((a+1)%((pW p).length:Int)+1) (show((pW p).length:Int)≠0 by omega);have h4:=Ew ((a+1)%((pW p).length:Int)+1) (show(0:Int)<((pW p).length:Int)by omega);split<;>omega);clear B0 q1 q2;by_cases q3:wP (Q5 p k)=1
 ·have E:D (Ye bk p k=(0,(pM p,(pW p).set k (Q5c (J7 (Q5 p k) 2) (Q17 (pW p).length k k)),pA p-1))):=qh (by rw[L.o,q3];rfl)
  rw[q3]at Y;clear q3 L;go_enter func51,ntmps51;go_upto_region 9 with fail
  refine Qq ?_;intro J A3;obtain⟨P1,h1⟩:=AF.o.stP M.o F j.o.2.1;rw[<-A3]at h1;have T:=qh h1;have B2:k<(pW (Vt p k (J7 (Q5 p k) 2))).length:=by rw[d.o];exact F
  have AH:=qh h1.pool.at;clear A3 h1 Y i e2 e3 d5 S c V;obtain⟨-,S,⟨-,i,-,-⟩,c,V,AI,C9,-⟩:=T.o.cells B2;have B3:D (1<=(pW (Vt p k (J7 (Q5 p k) 2))).length/\(pW (Vt p k (J7 (Q5 p k) 2))).length<=4):=qh (by rw[d.o];omega);have CA:D ((k:Int)<((pW (Vt p k (J7 (Q5 p k) 2))).length:Int)):=qh (by rw[d.o];omega);go_upto_region 10 with((go_at_call 96;(with_reducible refine(Qjl _ _ _ (pM (Vt p k (J7 (Q5 p k) 2))) (pW (Vt p k (J7 (Q5 p k) 2))) (pA (Vt p k (J7 (Q5 p k) 2))) (k:Int) (k:Int) AH.o B3.o.1 B3.o.2 BY CA.o).mono ?_);rintro e w2 ⟨rfl,rfl⟩))
  refine Qq ?_;intro W2 f;obtain⟨P2,H⟩:=T.o.stV M.o B2 (B1.o k k);rw[d.o]at f;rw[<-f]at H;have m:=qh H;have A4:k<(pW (Vt (Vt p k (J7 (Q5 p k) 2)) k (Q5c (Q5 (Vt p k (J7 (Q5 p k) 2)) k) (Q17 (pW p).length k k)))).length:=by rw[Qh6,d.o];exact F
  clear f H S i c V;obtain⟨-,o,-,-,V,-,B4,-⟩:=m.o.cells A4;have S:W2.cell? ⟨pb,U+6,N⟩=R (I Z (pA p)):=o;clear o;go_wp2_with fail
  go_ret2
  have h3:=m.o.stA M.o j.o.2.2.2.2.1;refine⟨3,by rw[E.o]<;>rfl, ?_⟩;rw[E.o];rw[Qh6,Q1p F,if_pos rfl]at h3;exact⟨_,h3⟩
 have DK:=qh q3;have CB:(wP (Q5 p k)==1)=Bm:=by simpa using q3
 have DL:D (Qqm (wV (Q5 p k))):=qh (by unfold Qqm;omega);have CC:wV (Q5 p k)<((pW p).length:Int):=BX;have B5:=qh (Q90 p k);obtain⟨C,A8⟩:∃C,(wV (Q5 p k)).toNat=C:=⟨_,rfl⟩;rw[A8]at A0 B5;have r:=qh A8;have CD:D (Qim p k=Q5 p C):=qh (by unfold Qim;rw[A8]);clear A8;have s:D ((Q1s p k=Bn/\wV (Q5 p k)≠(k:Int)/\0<(wX (Q5 p C)).length)\/(Q1s p k=Bm/\(wV (Q5 p k)=(k:Int)\/(wV (Q5 p k)≠(k:Int)/\(wX (Q5 p C)).length=0)))):=qh (by
  rw[B5.o];by_cases c1:wV (Q5 p k)=(k:Int)
  ·exact .inr ⟨by simp[c1],.inl c1⟩
  ·by_cases c2:0<(wX (Q5 p C)).length
   ·exact .inl ⟨by simp[c1,c2],c1,c2⟩
   ·have c3:(wX (Q5 p C)).length=0:=by omega
    exact .inr ⟨by simp[c3],.inr ⟨c1,c3⟩⟩)
 clear L
 have L:=qh (show Ye bk p k=(if wP (Q5 p k)==3 then
   if Q1s p k then(0,(pM p,((pW p).set k (J7 (J0 (Q5 p k) [(wX (Q5 p C)).getD 0 (0,0)]) 1)).set C (J0 (Q5 p C) ((wX (Q5 p C)).drop 1)),pA p))
   else(0,(pM p,(pW p).set k (J7 (Q5 p k) 2),pA p-1))
  else if pA p==0 then(0,(pM p,(pW p).set k (J7 (Q5 p k) 4),pA p))
  else if Q1s p k then(0,(pM p,(pW p).set k (J7 (Q5 p k) 3),pA p+1))
  else(0,(pM p,(pW p).set k (Q5c (Q5 p k) (Q17 (pW p).length (wV (Q5 p k)) k)),pA p)))by unfold Ye;simp only;rw[if_neg (by omega),if_neg (by omega),CD.o,r.o,CB];rfl)
 go_enter func51,ntmps51;go_upto_region 12 with fail
 go_quiet(fail)
 refine Qq ?_;intro J A3;have T:D (Qy w P pb U J p P):=qh (by rw[A3];exact AF.o.below (Q6 (Ai _ _) _));clear A3 Y i e2 e3 d5 S c V;obtain⟨-,S,⟨Y,i,-,-⟩,c,V,AI,C9,-⟩:=T.o.cells F;obtain⟨-,-,⟨-,-,⟨pv,cv,B6⟩,-⟩,-,-,-,-,-⟩:=T.o.cells A0;have u:J.cell? ⟨P.wb,P.wo+(wV (Q5 p k)).toNat * 5+2,N⟩=R (A pv (wX (Q5 p C)).length cv):=by rw[r.o];exact B6
 clear B6;by_cases q4:wP (Q5 p k)=3
 ·rcases s.o with⟨G,z,A1⟩|⟨G,K⟩
  ·have E:D (Ye bk p k=(0,(pM p,((pW p).set k (J7 (J0 (Q5 p k) [(wX (Q5 p C)).getD 0 (0,0)]) 1)).set C (J0 (Q5 p C) ((wX (Q5 p C)).drop 1)),pA p))):=qh (by rw[L.o,q4,G];rfl)
   have A5:(wV (Q5 p k) !=(k:Int))=Bn:=by simpa using z
   have CE:(0:Int)<(wX (Q5 p C)).length:=by omega
   rw[q4]at Y;have CF:=qh A1;have AJ:D (k≠C):=qh (λe=>z (by have:=r.o;omega));clear u;obtain⟨DM,CG,Gv,B7,B8,-,DN,-⟩:=T.o.focR M.o A0;obtain⟨bv,ov,rfl,hE⟩:=Rd.elem B8.rd 0 A1;have u:J.cell? ⟨P.wb,P.wo+(wV (Q5 p k)).toNat * 5+2,N⟩=R (A (R ⟨bv,ov,N⟩) (wX (Q5 p C)).length CG):=by rw[r.o];exact B7
   have CH:D ((wX (Q5 p C)).getD 0 (0,0)=((wX (Q5 p C))[0].1,(wX (Q5 p C))[0].2)):=qh (by rw[Ab,Ad A1];rfl);obtain⟨f0,f1,i0,i1⟩:=At.word (t:=(wX (Q5 p C))[0].1) (a:=(wX (Q5 p C))[0].2) hE;simp only[Ty.sz,Nat.reduceAdd,Nat.zero_mul,Nat.add_zero]at f0 f1;have B9:=Ac J _ f0;simp only at B9;generalize (wX (Q5 p C))[0].1=ra at *
   generalize (wX (Q5 p C))[0].2=rb at *
   have CI:D (Q4e (.slice Q4) ([(ra,rb)]:List (Int×Int))):=qh (Q2d (Q3p i0 i1));obtain⟨DO,DP,Gk,BA,CJ,-,-,BB⟩:=T.o.focR M.o F;have CK:=qh BB;have OB:D (∀b,(A (R ⟨J.heap.size,0,N⟩) 0 0).ownBlock=R b->J.heap.size<=b):=qh (λb W=>by cases W;exact Aj _);obtain⟨BC,BD,BE,BF,BG⟩:=info_parts J4;have CL:D (J.heap.size<=((J.alloc (.cells #[] 117)).alloc (.cells #[I Z ra,I Z rb] 117)).heap.size):=qh ((((Q1.refl (λ_=>False) J).alloc _).alloc _).size);have CM:D (([(ra,rb)]:List (Int×Int)).length<=maxLen):=qh (by simp[maxLen]);have CN:D (([]:List (Int×Int)).length+([(ra,rb)]:List (Int×Int)).length<=1000000000):=qh (by simp);have CO:D ((wX (Q5 p C)).length<=1500):=qh ((Q36 AW.o A0).2.2.2.2.1);clear B7 B8 hE i0 i1 CJ BB L s G z;go_upto_region 15 with fail
   go_upto_region 16 with(at_builtin;refine Qi _ rfl (.tmp 89) (.tmp 96) 41 rfl (t:=Q4) (v:=A (R ⟨J.heap.size,0,N⟩) 0 0) (xs:=[]) (ys:=[(ra,rb)]) rfl (by decide) J.heap.size 117 BC _ 16 underlying41 BD BE BF BG rfl (by decide) rfl rfl ((Vv J _ rfl rfl).kept (Below.alloc (Ai _ _) (Aj _) _)) ((Qqe.of_block (t:=Q4) (xs:=[(ra,rb)]) (B:=0) (Jn J _ _ _ _).2 (Ak _) rfl rfl CI.o CM.o).rd rfl) CN.o CL.o ?_;intro v5 w5 A9 BH;simp only[Bt]at A9;obtain⟨p5,c5,rfl,-,-⟩:=A9.form;have CP:=qh A9;have AK:=qh (Q1.grown (X:=λ_=>False) (a:=J) (((Q1.refl _ J).alloc _).alloc _) BH (λb W=> .inl (OB.o b W)));have k5:=(AK.o.cell AI (λh=>h) (P.wo+k * 5+2)).trans BA;have f5:=λq=>(AK.o.frozen AI (λh=>h) q).trans (c q);clear A9 BH)
   refine Qq ?_;intro O BI;obtain⟨F5,BJ,BK,BL⟩:=CP.o.ow rfl;obtain⟨P6,h6⟩:=CK.o w5 p5 1 c5 [(ra,rb)] F5 AK.o BJ BK (λb W=>(BL b W).1);rw[<-BI]at h6;have AA:=qh h6;have CQ:C<(pW (Vt p k (J0 (Q5 p k) [(ra,rb)]))).length:=by rw[d.o];exact A0
   have AL:Q5 (Vt p k (J0 (Q5 p k) [(ra,rb)])) C=Q5 p C:=by rw[Q1p F,if_neg AJ.o]
   have BM:=qh AL;obtain⟨DQ,A6,DR,AM,AB,-,CR,BN⟩:=AA.o.focR M.o CQ;rw[AL]at AM AB CR;obtain⟨CS,CT,rfl,-⟩:=Rd.elem AB.rd 0 CF.o;have AN:O.cell? ⟨P.wb,P.wo+(wV (Q5 p k)).toNat * 5+2,N⟩=R (A (R ⟨CS,CT,N⟩) (wX (Q5 p C)).length A6):=by rw[r.o];exact AM
   have CU:=qh AB;have BO:=qh BN;have AO:=λq=>AA.o.pool.wks.blk.free q;have AC:=AA.o.pool.wks.blk.lt;rw[AA.o.fresh.1]at AO AC;have CV:D (∀b,(A (R ⟨O.heap.size,0,N⟩) 0 0).ownBlock=R b->O.heap.size<=b):=qh (λb W=>by cases W;exact Aj _);have DS:1<=(wX (Q5 p C)).length:=A1;have CW:(1:Int)<=(wX (Q5 p C)).length:=by omega
   have DT:(1:Int)<=A6:=by omega
   have CX:D (([]:List Wd).length+((wX (Q5 p C)).drop 1).length<=1000000000):=qh (by rw[Df];have:=CO.o;simp only[Ei];omega);have CY:D (O.heap.size<=(O.alloc (.cells #[] 117)).heap.size):=qh (((Q1.refl (λ_=>False) O).alloc _).size);clear BI h6 BJ BK BL S Y i c V BA f0 f1 k5 f5 AM AB BN AL u B9;by_cases CZ:1=A6;case' pos=>
    subst CZ;have D0:(wX (Q5 p C)).length=1:=by omega
    rw[D0]at AN CW;go_upto_region 17 with fail
    refine Qq ?_;intro W7 AD;obtain⟨g,AP⟩:∃g,D (Qy w P pb U W7 (Vt (Vt p k (J0 (Q5 p k) [(ra,rb)])) C (J0 (Q5 p C) ((wX (Q5 p C)).drop 1))) g):=by rw[AD,<-World.setCell_alloc_past _ _ _ _ AC,r.o];obtain⟨g,h7⟩:=BO.o (O.alloc (.cells #[] 117)) (R ⟨O.heap.size,0,N⟩) 0 0 [] [] ((Q1.refl _ _).alloc _) ⟨_,rfl,.inl ⟨rfl,rfl,_,rfl,λx hx=>by cases hx;rfl⟩⟩ (by simp) (by simp);rw[BM.o]at h7;rw[List.drop_eq_nil_of_le (by omega)];exact⟨g,qh h7⟩
   case' neg=>
    have D1:=qh (CU.o.rd.tail A1 (show 1<A6 by omega));have DU:(1:Int)<A6:=by omega
    go_upto_region 17 with(at_builtin;refine Qi _ rfl (.tmp 101) (.tmp 106) 41 rfl (t:=Q4) (v:=A (R ⟨O.heap.size,0,N⟩) 0 0) (xs:=[]) (ys:=(wX (Q5 p C)).drop 1) rfl (by decide) O.heap.size 117 BC _ 16 underlying41 BD BE BF BG rfl (by decide) rfl rfl (Vv O _ rfl rfl) (D1.o.kept (Am (Below.alloc (Ai _ _) (Aj _) _))) CX.o CY.o ?_;intro v7 w7 AE BP;simp only[Bt]at AE;obtain⟨p7,c7,rfl,-,-⟩:=AE.form;have D2:=qh AE;have AQ:=qh (Q1.grown (X:=λ_=>False) (a:=O) ((Q1.refl _ O).alloc _) BP (λb W=> .inl (CV.o b W)));have k7:=(AQ.o.cell AC (λh=>h) (P.wo+(wV (Q5 p k)).toNat * 5+2)).trans AN;have f7:=λq=>(AQ.o.frozen AC (λh=>h) q).trans (AO q);clear AE BP)
    refine Qq ?_;intro W7 AD;obtain⟨g,AP⟩:∃g,D (Qy w P pb U W7 (Vt (Vt p k (J0 (Q5 p k) [(ra,rb)])) C (J0 (Q5 p C) ((wX (Q5 p C)).drop 1))) g):=by rw[AD,r.o];obtain⟨F7,D3,D4,D5⟩:=D2.o.ow rfl;obtain⟨g,h7⟩:=BO.o w7 p7 _ c7 _ F7 AQ.o D3 D4 (λb W=>(D5 b W).1);rw[BM.o]at h7;simp only[Df]at h7;exact⟨g,qh h7⟩
    clear k7 f7
   all_goals
    clear AD AN AO;have BQ:k<(pW (Vt (Vt p k (J0 (Q5 p k) [(ra,rb)])) C (J0 (Q5 p C) ((wX (Q5 p C)).drop 1)))).length:=by show k<(((pW p).set k _).set C _).length;rw[Br,Br];exact F
    obtain⟨-,-,⟨DV,-,-,-⟩,DW,-,-,-,-⟩:=AP.o.cells BQ;go_wp2_with fail
    go_ret2
    obtain⟨P8,h8⟩:=AP.o.stP M.o BQ j.o.1;refine⟨5,by rw[E.o]<;>rfl, ?_⟩;rw[E.o,CH.o];have D6:Vt (Vt (Vt p k (J0 (Q5 p k) [(ra,rb)])) C (J0 (Q5 p C) ((wX (Q5 p C)).drop 1))) k (J7 (Q5 (Vt (Vt p k (J0 (Q5 p k) [(ra,rb)])) C (J0 (Q5 p C) ((wX (Q5 p C)).drop 1))) k) 1)=(pM p,((pW p).set k (J7 (J0 (Q5 p k) [(ra,rb)]) 1)).set C (J0 (Q5 p C) ((wX (Q5 p C)).drop 1)),pA p):=by
     have D7:Q5 (Vt (Vt p k (J0 (Q5 p k) [(ra,rb)])) C (J0 (Q5 p C) ((wX (Q5 p C)).drop 1))) k=J0 (Q5 p k) [(ra,rb)]:=by rw[Q1p (by rw[d.o];exact A0),if_neg (λe=>AJ.o e.symm),Q1p F,if_pos rfl]
     rw[D7];unfold Vt;simp only[pM,pW,pA];rw[List.set_comm _ _ (λe=>AJ.o e.symm),Gi]
    rw[D6]at h8;exact⟨P8,h8⟩
  ·have E:D (Ye bk p k=(0,(pM p,(pW p).set k (J7 (Q5 p k) 2),pA p-1))):=qh (by rw[L.o,q4,G];rfl)
   rw[q4]at Y;clear G q4 L s;rcases K with K|⟨K,hc2⟩;case' inl=>have A5:(wV (Q5 p k) !=(k:Int))=Bm:=by simp[K]
   case' inr=>
    have A5:(wV (Q5 p k) !=(k:Int))=Bn:=by simpa using K
    rw[hc2]at u
   all_goals
    have D8:=qh K;clear K;go_upto_region 20 with fail
    refine Qq ?_;intro W2 f;obtain⟨P2,H⟩:=T.o.stP M.o F j.o.2.1;rw[<-f]at H;have m:=qh H;have A4:k<(pW (Vt p k (J7 (Q5 p k) 2))).length:=by rw[d.o];exact F
    clear f H S Y i c V u;obtain⟨-,o,-,-,V,-,B4,-⟩:=m.o.cells A4;have S:W2.cell? ⟨pb,U+6,N⟩=R (I Z (pA p)):=o;clear o;go_wp2_with fail
    go_ret2
    exact⟨3,by rw[E.o]<;>rfl,by rw[E.o];exact⟨_,m.o.stA M.o j.o.2.2.2.2.1⟩⟩
 have AR:(wP (Q5 p k)==3)=Bm:=by simpa using q4
 by_cases q5:pA p=0
 ·have E:D (Ye bk p k=(0,(pM p,(pW p).set k (J7 (Q5 p k) 4),pA p))):=qh (by rw[L.o,AR,q5];rfl)
  rw[q5]at S;clear L s;go_wp2_with fail
  go_ret2
  obtain⟨P2,H⟩:=T.o.stP M.o F j.o.2.2.2.1;exact⟨6,by rw[E.o]<;>rfl,by rw[E.o];exact⟨P2,H⟩⟩
 have BR:(pA p==0)=Bm:=by simpa using q5
 rcases s.o with⟨G,z,A1⟩|⟨G,K⟩
 ·have E:D (Ye bk p k=(0,(pM p,(pW p).set k (J7 (Q5 p k) 3),pA p+1))):=qh (by rw[L.o,AR,BR,G];rfl)
  have A5:(wV (Q5 p k) !=(k:Int))=Bn:=by simpa using z
  have DX:=qh z;have CE:(0:Int)<(wX (Q5 p C)).length:=by omega
  clear L s G z;go_upto_region 27 with fail
  refine Qq ?_;intro W2 f;obtain⟨P2,H⟩:=T.o.stP M.o F j.o.2.2.1;rw[<-f]at H;have m:=qh H;have A4:k<(pW (Vt p k (J7 (Q5 p k) 3))).length:=by rw[d.o];exact F
  clear f H S Y i c V u;obtain⟨-,o,-,-,V,-,B4,-⟩:=m.o.cells A4;have S:W2.cell? ⟨pb,U+6,N⟩=R (I Z (pA p)):=o;clear o;go_wp2_with fail
  go_ret2
  exact⟨4,by rw[E.o]<;>rfl,by rw[E.o];exact⟨_,m.o.stA M.o j.o.2.2.2.2.2⟩⟩
 ·have E:D (Ye bk p k=(0,(pM p,(pW p).set k (Q5c (Q5 p k) (Q17 (pW p).length (wV (Q5 p k)) k)),pA p))):=qh (by rw[L.o,AR,BR,G];rfl)
  have AH:=qh T.o.pool.at;clear L s G;rcases K with K|⟨K,hc2⟩;case' inl=>have A5:(wV (Q5 p k) !=(k:Int))=Bm:=by simp[K]
  case' inr=>
   have A5:(wV (Q5 p k) !=(k:Int))=Bn:=by simpa using K
   rw[hc2]at u
  all_goals
   have D8:=qh K;clear K;go_wp2_with((go_at_call 96;(with_reducible refine(Qjl _ _ _ (pM p) (pW p) (pA p) (wV (Q5 p k)) (k:Int) AH.o BU BV BW CC).mono ?_);rintro e w2 ⟨rfl,rfl⟩))
   go_ret2
   obtain⟨P2,H⟩:=T.o.stV M.o F (B1.o (wV (Q5 p k)) k);exact⟨4,by rw[E.o]<;>rfl,by rw[E.o];exact⟨P2,H⟩⟩
theorem Qog{α:Type}{f:Qqp×List Qqt->α->Qqp×List Qqt}(B:∀s a,(f s a).2.length=s.2.length+1):∀(l:List α) (s:Qqp×List Qqt),(l.foldl f s).2.length=s.2.length+l.length
 | [],_=>rfl
 |a::l,s=>by rw[List.foldl_cons,Qog B l,B s a,Bs];omega
theorem Qjz(bk:List Qr2)(m:Qqp)(B a b:Int):(Jf bk m B a b).2.length<=2+(aW (Q7 (mC m) b)).length:=by
 unfold Jf;simp only;split
 ·simp
 ·repeat' split
  ·simp
  ·unfold Qd0
   simp only;rw[Qog (f:=Yr _ _ _) (λs w=>by simp[Yr])];simp
  ·rw[Qog (f:=Yn) (λs w=>by simp[Yn])];simp
  ·simp[Q4r];omega
  ·unfold Vy
   simp only;split<;>simp;omega
  ·simp
theorem Qa9{p:J9}(h:Qrg p):Zp 4 (pM p)/\((mC (pM p)).length<=1500/\mX (pM p)=[]/\(pW p).length<=4)/\∀v∈pW p,(wX v).length<=1500/\(wL v).length<=1500/\(wC v).length=7:=by
 obtain⟨F,G,H,P,J⟩:=Q1d h;obtain⟨K,S,L,-⟩:=Q4j J;refine⟨λc M=> ?_,⟨K.2,G,F.2⟩,λv O=> ?_⟩
 ·obtain⟨i,E,rfl⟩:=Av.1 M
  have:=Qaz (L i E);rw[Qx E]at this;omega
 ·obtain⟨k,B,rfl⟩:=Av.1 O
  rw[<-Q95 B];have T:=Q36 h B;have C:=H k B;unfold Zw Q06 at C;simp only[Bl,beq_iff_eq]at C;have:=C.1.2.2.1.1;omega
theorem Q9q{P:Qqb->Prop}{l:List Qqb}{k:Nat}{y:Qqb}(h:∀v∈l,P v)(B:P y):∀v∈l.set k y,P v:=λv C=>(List.mem_or_eq_of_mem_set C).elim (h v) λe=>e▸B
theorem Qnq{P:Qqb->Prop}{p:J9}{k:Nat}(h:∀v∈pW p,P v)(B:P Qou):P (Q5 p k):=by
 unfold Q5;rw[Ab];rcases e:(pW p)[k]? with _|v
 ·exact B
 ·exact h v (Ha e)
theorem Q7c{bk:List Qr2}{p:J9}{k:Nat}(h:Qrg p)(O:∀n∈bk,∀i,(aD (Qn n i)).length<=1000/\(aW (Qn n i)).length<=1000)(U:∀n∈bk,n.length<=1000):Jp (Ye bk p k).2/\(mC (pM (Ye bk p k).2)).length=(mC (pM p)).length/\(pW (Ye bk p k).2).length=(pW p).length:=by
 obtain⟨L,⟨B,F,G⟩,V⟩:=Qa9 h;have P:∀v∈pW p,(wX v).length<=1500/\(wL v).length<=1500/\(wC v).length<=7:=λv M=>by have:=V v M;omega
 have S:∀j,(wX (Q5 p j)).length<=1500/\(wL (Q5 p j)).length<=1500/\(wC (Q5 p j)).length<=7:=λj=>Qnq P (by simp[Qou,wX,wL,wC]);have H:∀v∈pW p,(wX v).length<=4000000/\(wL v).length<=4000000/\(wC v).length<=7:=λv M=>by have:=P v M;omega
 have C:Zp 3000 (pM p):=L.mono (by omega);have E:=S k;have J:∀(y:Qqb) (a:Int),(wX y).length<=4000000/\(wL y).length<=4000000/\(wC y).length<=7->Jp (pM p,(pW p).set k y,a)/\(mC (pM (pM p,(pW p).set k y,a))).length=(mC (pM p)).length/\(pW (pM p,(pW p).set k y,a)).length=(pW p).length:=λy a W=>⟨⟨C,B,by show(mX (pM p)).length<=_;rw[F];simp,by show((pW p).set k y).length<=4;rw[Br];exact G,Q9q H W⟩,rfl,by show((pW p).set k y).length=_;rw[Br]⟩;have X:Jp p:=⟨C,B,by rw[F];simp,G,H⟩;unfold Ye;simp only;split
 ·refine⟨⟨?_, ?_, ?_,by show((pW p).set k _).length<=4;rw[Br];exact G,Q9q H ?_⟩, ?_,by show((pW p).set k _).length=_;rw[Br]⟩
  ·show Zp 3000 (Jq (pM p) (Q5 p k)).1
   unfold Jq;simp only;repeat' split
   ·exact C.release
   ·exact C.words (by simp)
   ·exact C.release
   ·exact C
  ·show(mC (Jq (pM p) (Q5 p k)).1).length<=1500
   unfold Jq;simp only;repeat' split
   ·rw[Zk];exact B
   ·show(mC (Qa _ _ _)).length<=_;unfold Qa;rw[Q0o];exact B
   ·rw[Zk];exact B
   ·exact B
  ·show(mX (Jq (pM p) (Q5 p k)).1).length<=1000000
   have:mX (Jq (pM p) (Q5 p k)).1=mX (pM p):=by
    unfold Jq;simp only;repeat' split
    all_goals rfl
   rw[this,F];simp
  ·unfold Jq;simp only
   repeat' split
   all_goals simp only[wX,wL,wC,Bo,Bs,Df,Ei]at E⊢
   all_goals omega
  ·show(mC (Jq (pM p) (Q5 p k)).1).length=_
   unfold Jq;simp only;repeat' split
   ·rw[Zk]
   ·show(mC (Qa _ _ _)).length=_;unfold Qa;rw[Q0o]
   ·rw[Zk]
   ·rfl
 ·split
  ·split
   ·have q1:=Qks bk (pM p) (Z4 (mC (pM p)) (Ya (Q5 p k))) (Zl (mC (pM p)) (Ya (Q5 p k))).1 (Zl (mC (pM p)) (Ya (Q5 p k))).2
    have d:=Qjz bk (pM p) (Z4 (mC (pM p)) (Ya (Q5 p k))) (Zl (mC (pM p)) (Ya (Q5 p k))).1 (Zl (mC (pM p)) (Ya (Q5 p k))).2;have T:=Qoo bk (pM p) (Z4 (mC (pM p)) (Ya (Q5 p k))) (Zl (mC (pM p)) (Ya (Q5 p k))).1 (Zl (mC (pM p)) (Ya (Q5 p k))).2;have Y:Zp 3000 (Jf bk (pM p) (Z4 (mC (pM p)) (Ya (Q5 p k))) (Zl (mC (pM p)) (Ya (Q5 p k))).1 (Zl (mC (pM p)) (Ya (Q5 p k))).2).1:=Qhs (K:=1000) (by omega) (L.mono (by omega)) O;have f:=(L.get (Zl (mC (pM p)) (Ya (Q5 p k))).2).2;have g:(Yd (Y4 bk (aV (Q7 (mC (pM p)) (Zl (mC (pM p)) (Ya (Q5 p k))).1)))).length<=1000:=by
     unfold Y4;rw[Ab];rcases e:bk[(aV (Q7 (mC (pM p)) (Zl (mC (pM p)) (Ya (Q5 p k))).1)).toNat]? with _|n
     ·simp[Yd]
     ·have:=Q14 n n.length
      have O:=U n (Ha e);rw[<-Q1r]at this;show(Yd n).length<=_;omega
    rw[F]at q1;refine⟨⟨Y, ?_, ?_,by show((pW p).set k _).length<=4;rw[Br];exact G,Q9q H ?_⟩, ?_,by show((pW p).set k _).length=_;rw[Br]⟩
    ·show(mC (Jf bk _ _ _ _).1).length<=1500;rw[T];exact B
    ·show([]:List Wd).length<=_;simp
    ·show((wX (Q5 p k)).take _++mX (Jf bk _ _ _ _).1).length<=4000000/\(Jf bk _ _ _ _).2.length<=4000000/\((wC (Q5 p k)).set _ _).length<=7
     rw[Bo,List.length_take,Br];simp only[Ei]at q1;omega
    ·show(mC (Jf bk _ _ _ _).1).length=_;exact T
   ·exact⟨X,rfl,rfl⟩
  ·have b:=S (wV (Q5 p k)).toNat
   repeat' split
   ·exact J _ _ (by simp only[Q5c,J7,wX,wL,wC]at E⊢;omega)
   ·have c:∀v∈(pW p).set k (J7 (J0 (Q5 p k) [(wX (Qim p k)).getD 0 (0,0)]) 1),(wX v).length<=4000000/\(wL v).length<=4000000/\(wC v).length<=7:=Q9q H (by simp only[J0,J7,wX,wL,wC,List.length_singleton]at E⊢;omega)
    refine⟨⟨C,B,by show(mX (pM p)).length<=_;rw[F];simp,by show(((pW p).set k _).set _ _).length<=4;rw[Br,Br];exact G,Q9q c ?_⟩,rfl,by show(((pW p).set k _).set _ _).length=_;rw[Br,Br]⟩;unfold Qim;simp only[J0,wX,wL,wC,Df]at b⊢;omega
   ·exact J _ _ (by simp only[J7,wX,wL,wC]at E⊢;omega)
   ·exact J _ _ (by simp only[J7,wX,wL,wC]at E⊢;omega)
   ·exact J _ _ (by simp only[J7,wX,wL,wC]at E⊢;omega)
   ·exact J _ _ (by simp only[Q5c,wX,wL,wC]at E⊢;omega)
end Go.Proofs.YthbpkpnioaniiaaGreat
