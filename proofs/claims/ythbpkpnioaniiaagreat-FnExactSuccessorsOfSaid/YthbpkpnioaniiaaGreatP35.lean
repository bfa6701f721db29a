import Derived.Test.YthbpkpnioaniiaaGreatP33
import Derived.Test.YthbpkpnioaniiaaGreatP34
set_option maxHeartbeats 40000000
set_option maxRecDepth 100000
set_option linter.all false
namespace Go.Proofs.YthbpkpnioaniiaaGreat
open Go.RowKit Go.Proofs.Tryz
open Go.Value renaming int->I,slice->A
open Go.IntKind renaming i64->Z
open Option renaming none->N,some->R
open Bool renaming true->Bn,false->Bm,eq_false_iff->Es,and_eq_true->Bl,eq_iff_iff->Eo
open Go renaming World->Bh,maxLen->Bp,Calls->Bq,Value->Bk
open Go.RowKit renaming Below->Bi,intOf->Bv
open Int renaming emod_nonneg->Ga,emod_lt_of_pos->Ew
open List renaming length_set->Br,cons_append->Cc,nil_append->Bt,length->Bx
open List.cons renaming injEq->Fh
open Nat renaming reduceAdd->Bj
theorem Qy.focRX{J w:Bh}{B P:PS}{pb L:Nat}{p:J9}(h:Qy J B pb L w p P)(U:pb<J.heap.size){k:Nat}(V:k<(pW p).length):
  ∃(px:Option Addr) (cx:Nat) (C:List Nat),w.cell? ⟨B.wb,B.wo+k * 5+2,N⟩=R (A px (wX (Q5 p k)).length cx)/\Ow (.slice Q4) w [A px (wX (Q5 p k)).length cx] (wX (Q5 p k)) C/\C.Nodup/\(wX (Q5 p k)).length<=cx/\
   ∀(w2:Bh) (F:Option Addr) (G H:Nat) (xs:List Wd) (E:List Nat),Q1 (λb=>b∈C) w w2->Ow (.slice Q4) w2 [A F G H] xs E->E.Nodup->(∀b∈E,b∈C\/w.heap.size<=b)->
    ∃K,Qy J B pb L (w2.setCell ⟨B.wb,B.wo+k * 5+2,N⟩ (A F G H)) (Vt p k (J0 (Q5 p k) xs)) K:=by
 obtain⟨px,cx,C,c,M,W,g,X⟩:=h.pool.focR V;have O:=h.fresh.1;have S:=h.fresh.2.1;refine⟨px,cx,C,by rw[<-O,<-S];exact c,M,W, ?_,λw2 F G H xs E Y a d e=> ?_⟩
 ·obtain⟨_,_,f,i,_⟩:=J6 M.rd
  simp only[Fh,Value.slice.injEq,and_true]at f;omega
 ·obtain⟨K,T⟩:=X w2 F G H xs E Y a d e
  rw[O,S]at T;exact⟨K,h.trans U T⟩
def Q9j(bk:List Qr2)(p:J9)(k:Nat)(w:Bh)(P:PS)(pb po:Nat)(e:Ending)(w':Bh):Prop:=
 ∃kd,e=.returned (.tuple #[I Z kd,I Z (Ye bk p k).1])/\Q1 (λc=>c=pb\/c∈P.all) w w'/\((Ye bk p k).1=0->∃P',Qy w P pb po w' (Ye bk p k).2 P')
theorem Qod(d w:Bh)(AM:Bi d.heap.size d w)(p0:Option Addr)(c0:Nat)(bk:List Qr2)(AN:Rd (.slice Je) d [A p0 bk.length c0] bk)(BI:bk.length<=Bp)(AO:∀n∈bk,Ys n=Bn)(pb E:Nat)(p:J9)(P:PS)(k:Nat)(h:Zj w pb E p P)(hS:∀b∈pb::P.all,d.heap.size<=b)(C:k<(pW p).length)(A4:Qrg p):
  Bq prog 63 #[.pointer (R ⟨pb,E,N⟩),A p0 bk.length c0,I Z k] w (Q9j bk p k w P pb E):=by
 have AP:=qh (Qy.start h);have G:D (pb<w.heap.size):=qh (h.mem.blk.lt);have BJ:=Q36 A4 C;obtain⟨⟨BK,BL⟩,⟨CW,CX⟩,⟨BM,BN⟩,CY,CZ,D0,D1⟩:=BJ;have x:(wV (Q5 p k)).toNat<(pW p).length:=by omega
 obtain⟨⟨cw,z,D2⟩,W,⟨K,e1,⟨px,cx,e2⟩,pl,cl,e3⟩,O,f,D3,D4,AQ⟩:=AP.o.cells C;have BO:(0:Int)<=(k:Int):=by omega
 have D5:(k:Int)<((pW p).length:Int):=by omega
 have BP:=qh hS;have AR:=qh AM;have BQ:=qh AN;have BR:=qh AO;have BS:=qh A4;have BT:=qh BI;have AS:D (0<(wL (Q5 p k)).length->_):=qh (Qb0 A4 C);have X:D (Qqm 1/\Qqm 2/\Qqm 3/\Qqm 4/\Qqm (pA p-1)/\Qqm (pA p+1)):=qh (by unfold Qqm;omega);have AT:D (∀a wo:Int,Qqm (Q17 (pW p).length a wo)):=qh (λa wo=>by unfold Q17 Qqm;have h1:=Ga (a+1) (show((pW p).length:Int)≠0 by omega);have S:=Ew (a+1) (show(0:Int)<((pW p).length:Int)by omega);have h3:=Ga ((a+1)%((pW p).length:Int)+1) (show((pW p).length:Int)≠0 by omega);have h4:=Ew ((a+1)%((pW p).length:Int)+1) (show(0:Int)<((pW p).length:Int)by omega);split<;>omega);have AU:D (∀y,(pW (Vt p k y)).length=(pW p).length):=qh (λy=>by show((pW p).set k y).length=_;rw[Br]);have BU:wV (Q5 p k)<((pW p).length:Int):=BN;have AV:=qh (Q90 p k);obtain⟨B,A5⟩:∃B,(wV (Q5 p k)).toNat=B:=⟨_,rfl⟩;rw[A5]at x AV;have m:=qh A5;have BV:D (Qim p k=Q5 p B):=qh (by unfold Qim;rw[A5]);clear AN AO A4 h hS AM A5;have T:D ((Q1s p k=Bn/\wV (Q5 p k)≠(k:Int)/\0<(wX (Q5 p B)).length)\/(Q1s p k=Bm/\(wV (Q5 p k)=(k:Int)\/(wV (Q5 p k)≠(k:Int)/\(wX (Q5 p B)).length=0)))):=qh (by
  rw[AV.o];by_cases c1:wV (Q5 p k)=(k:Int)
  ·exact .inr ⟨by simp[c1],.inl c1⟩
  ·by_cases c2:0<(wX (Q5 p B)).length
   ·exact .inl ⟨by simp[c1,c2],c1,c2⟩
   ·have c3:(wX (Q5 p B)).length=0:=by omega
    exact .inr ⟨by simp[c3],.inr ⟨c1,c3⟩⟩)
 have g:D (∀kd w' p' Y,Ye bk p k=(0,p')->Qy w P pb E w' p' Y->Q9j bk p k w P pb E (.returned (.tuple #[I Z kd,I Z 0])) w'):=qh (λkd w' p' Y e hs=>⟨kd,by rw[e],hs.fr,λ_=>⟨Y,by rw[e];exact hs⟩⟩);go_enter func63,ntmps63;go_upto_region 2 with fail
 go_quiet(fail)
 refine Qq ?_;intro L AW;have AC:Bi w.heap.size w L:=by rw[AW];exact Q6 (Ai _ _) _
 have H:D (Qy w P pb E L p P):=qh (AP.o.below AC);have BW:=qh AC;clear AW K e1 e2 e3 z W O f AC;obtain⟨⟨D6,z,D7⟩,W,⟨K,e1,⟨px,cx,e2⟩,pl,cl,e3⟩,O,f,BX,D8,-⟩:=H.o.cells C;obtain⟨-,-,⟨-,-,⟨pv,cv,AX⟩,-⟩,-,-,-,-,-⟩:=H.o.cells x;have o:L.cell? ⟨P.wb,P.wo+(wV (Q5 p k)).toNat * 5+2,N⟩=R (A pv (wX (Q5 p B)).length cv):=by rw[m.o];exact AX
 clear AX;go_upto_region 3 with fail
 go_cut [10] (λb wx=>b=.bool (Q1s p k)/\L=wx)
 case first=>
  rcases T.o with⟨M,A6,A0⟩|⟨M,hc|⟨hc,BY⟩⟩
  ·have AY:(wV (Q5 p k) !=(k:Int))=Bn:=by simpa using A6
   have BZ:(0:Int)<(wX (Q5 p B)).length:=by omega
   go_wp2_with fail
   go_meet;exact⟨by rw[M],rfl⟩
  ·have AY:(wV (Q5 p k) !=(k:Int))=Bm:=by simp[hc]
   go_wp2_with fail
   go_meet;exact⟨by rw[M],rfl⟩
  ·have AY:(wV (Q5 p k) !=(k:Int))=Bn:=by simpa using hc
   rw[BY]at o;go_wp2_with fail
   go_meet;exact⟨by rw[M],rfl⟩
 case rest=>
 obtain⟨rfl,rfl⟩:=hcut;obtain⟨hp,A7⟩:∃b,Q1s p k=b:=⟨_,rfl⟩;rw[A7]at T;rw[A7];have C0:=qh A7;clear A7;by_cases q1:0<(wL (Q5 p k)).length
 ·have F:D (Ye bk p k=(0,((Jq (pM p) (Q5 p k)).1,(pW p).set k (Jq (pM p) (Q5 p k)).2,pA p))):=qh (by unfold Ye;simp only;rw[if_pos q1])
  have AD:=qh q1;have C1:(0:Int)<(wL (Q5 p k)).length:=by omega
  have AZ:D ((wL (Q5 p k)).length<=1000000/\(wX (Q5 p k)).length<=1000000):=qh (by omega);go_wp2_with((go_at_call 118;(with_reducible refine(Qhz _ pb E p P k H.o.pool C AD.o AZ.o.1 AZ.o.2 (AS.o AD.o).1 (AS.o AD.o).2).mono ?_);rintro e w1 ⟨rfl,M⟩;have HR:=qh M;clear M))
  go_ret2
  obtain⟨Y,r⟩:=HR.o;exact g.o _ _ _ _ F.o (H.o.trans G.o r)
 have C1:¬(0:Int)<(wL (Q5 p k)).length:=by omega
 by_cases q2:0<(wX (Q5 p k)).length
 ·obtain⟨l,B0⟩:=Qh3 bk BS.o C q2
  have C2:=qh B0;have F:D (Ye bk p k=(Q0k bk (pM p) (Q5 p k),Q3k bk p k)):=qh (by
   unfold Ye Q3k;simp only;rw[if_neg q1,if_pos q2];by_cases e:Q0k bk (pM p) (Q5 p k)=0
   ·simp[e]
   ·simp[e])
  have C3:=qh q2;have C4:D (wL (Q5 p k)=[]):=qh (List.eq_nil_of_length_eq_zero (by omega));have C5:(0:Int)<(wX (Q5 p k)).length:=by omega
  have C6:D (Bi d.heap.size d L):=qh (AR.o.trans (BW.o.mono AR.o.size));clear B0;go_wp2_with((go_at_call 119;(with_reducible refine(Qmu d _ C6.o p0 c0 bk BQ.o BT.o BR.o pb E p P k H.o.pool BP.o C C3.o C4.o l C2.o).mono ?_);rintro e w1 ⟨rfl,hf,M⟩;have HR:=qh M;have C7:=qh hf;clear M hf))
  go_ret2
  refine⟨2,by rw[F.o]<;>rfl,(H.o.fr).trans C7.o,λe=> ?_⟩;rw[F.o]at e⊢;obtain⟨Y,r⟩:=HR.o e;exact⟨Y,H.o.trans G.o r⟩
 have C5:¬(0:Int)<(wX (Q5 p k)).length:=by omega
 have J:=qh (show Ye bk p k=(if wP (Q5 p k)==1 then(0,(pM p,(pW p).set k (Q5c (J7 (Q5 p k) 2) (Q17 (pW p).length k k)),pA p-1))
  else if wP (Q5 p k)==3 then
   if hp then(0,(pM p,((pW p).set k (J7 (J0 (Q5 p k) [(wX (Q5 p B)).getD 0 (0,0)]) 1)).set B (J0 (Q5 p B) ((wX (Q5 p B)).drop 1)),pA p))
   else(0,(pM p,(pW p).set k (J7 (Q5 p k) 2),pA p-1))
  else if pA p==0 then(0,(pM p,(pW p).set k (J7 (Q5 p k) 4),pA p))
  else if hp then(0,(pM p,(pW p).set k (J7 (Q5 p k) 3),pA p+1))
  else(0,(pM p,(pW p).set k (Q5c (Q5 p k) (Q17 (pW p).length (wV (Q5 p k)) k)),pA p)))by unfold Ye;simp only;rw[if_neg q1,if_neg q2,C0.o,BV.o,m.o])
 clear q1 q2;have B1:D (-10<=pA p/\pA p<=10):=qh (by omega);have B2:∀(y:Qqb) (a:Int),k<(pW (pM p,(pW p).set k y,a)).length:=λy a=>by show k<((pW p).set k y).length;rw[Br];exact C
 by_cases q3:wP (Q5 p k)=1
 ·have F:D (Ye bk p k=(0,(pM p,(pW p).set k (Q5c (J7 (Q5 p k) 2) (Q17 (pW p).length k k)),pA p-1))):=qh (by rw[J.o,q3];rfl)
  rw[q3]at K;clear q3 J T;go_upto_region 12 with((go_at_call 120;(with_reducible refine(Ql1 _ pb E P.wb (P.wo+k * 5) (pA p) 1 W K f O B1.o AQ).mono ?_);rintro e W2 ⟨rfl,hw⟩;have AE:=qh hw;clear hw))
  obtain⟨i,S⟩:=(H.o.stA G.o X.o.2.2.2.2.1).stP G.o (k:=k) C X.o.2.1;have s:D (Qy w P pb E W2 (pM p,(pW p).set k (J7 (Q5 p k) 2),pA p-1) i):=qh (by rw[AE.o];exact S);have C8:=qh s.o.pool.at;have B3:D (((pW p).set k (J7 (Q5 p k) 2)).length=(pW p).length):=qh (Br);have AF:D (1<=((pW p).set k (J7 (Q5 p k) 2)).length/\((pW p).set k (J7 (Q5 p k) 2)).length<=4/\(k:Int)<((pW p).set k (J7 (Q5 p k) 2)).length):=qh (by rw[B3.o];omega);clear S W K e1 e2 e3 z O f o;obtain⟨-,-,⟨-,f1,-,-⟩,O,-,C9,-,-⟩:=s.o.cells (B2 _ _);go_wp2_with((go_at_call 121;(with_reducible refine(Qjp _ pb E (pM p) _ _ (k:Int) (k:Int) C8.o AF.o.1 AF.o.2.1 BO AF.o.2.2).mono ?_);rintro e w3 ⟨rfl,rfl⟩;rw[B3.o]))
  go_ret2
  obtain⟨P3,h3⟩:=s.o.stV G.o (B2 _ _) (AT.o k k);rw[Q7h C,Qf6]at h3;exact g.o 3 _ _ _ F.o h3
 have A8:(wP (Q5 p k)==1)=Bm:=by simpa using q3
 by_cases v:wP (Q5 p k)=3
 ·cases hp with
  |false=>
   have F:D (Ye bk p k=(0,(pM p,(pW p).set k (J7 (Q5 p k) 2),pA p-1))):=qh (by rw[J.o,v];rfl);rw[v]at K;clear q3 A8 v J T;go_wp2_with((go_at_call 120;(with_reducible refine(Ql1 _ pb E P.wb (P.wo+k * 5) (pA p) 3 W K f O B1.o AQ).mono ?_);rintro e W2 ⟨rfl,hw⟩;have AE:=qh hw;clear hw))
   go_ret2
   obtain⟨i,S⟩:=(H.o.stA G.o X.o.2.2.2.2.1).stP G.o (k:=k) C X.o.2.1;refine g.o 3 _ _ i F.o ?_;rw[AE.o];exact S
  |true=>
   obtain⟨-,A6,A0⟩:Bn=Bn/\wV (Q5 p k)≠(k:Int)/\0<(wX (Q5 p B)).length:=T.o.elim id λh=>absurd h.1 (by decide);have F:D (Ye bk p k=(0,(pM p,((pW p).set k (J7 (J0 (Q5 p k) [(wX (Q5 p B)).getD 0 (0,0)]) 1)).set B (J0 (Q5 p B) ((wX (Q5 p B)).drop 1)),pA p))):=qh (by rw[J.o,v];rfl);have BZ:(0:Int)<(wX (Q5 p B)).length:=by omega
   rw[v]at K;have AG:=qh A0;have AH:D (k≠B):=qh (λe=>A6 (by have:=m.o;omega));obtain⟨D9,CA,Gv,B4,B5,-,DA,-⟩:=H.o.focR G.o x;obtain⟨bv,ov,rfl,hE⟩:=Rd.elem B5.rd 0 A0;clear o;have o:L.cell? ⟨P.wb,P.wo+(wV (Q5 p k)).toNat * 5+2,N⟩=R (A (R ⟨bv,ov,N⟩) (wX (Q5 p B)).length CA):=by rw[m.o];exact B4
   have CB:D ((wX (Q5 p B)).getD 0 (0,0)=((wX (Q5 p B))[0].1,(wX (Q5 p B))[0].2)):=qh (by rw[Ab,Ad A0];rfl);obtain⟨f0,f1,i0,i1⟩:=At.word (t:=(wX (Q5 p B))[0].1) (a:=(wX (Q5 p B))[0].2) hE;simp only[Ty.sz,Bj,Nat.zero_mul,Nat.add_zero]at f0 f1;have B6:=Ac L _ f0;simp only at B6;generalize (wX (Q5 p B))[0].1=ra at *
   generalize (wX (Q5 p B))[0].2=rb at *
   have B7:D (Qqm ra/\Qqm rb):=qh (⟨i0,i1⟩);obtain⟨DB,DC,Gk,CC,CD,-,-,B8⟩:=H.o.focR G.o C;have CE:=qh B8;clear B4 B5 hE i0 i1 CD B8 J T A6 e2;go_upto_region 16 with fail
   refine Qq ?_;intro W6 B9;obtain⟨P6,h6⟩:=CE.o (L.alloc (.cells #[I Z ra,I Z rb] 117)) (R ⟨L.heap.size,0,N⟩) 1 1 [(ra,rb)] [L.heap.size] ((Q1.refl _ _).alloc _) (Q43 (heap_alloc_new L _) B7.o.1 B7.o.2) (by simp) (λb hb=>by rw[Bb.1 hb];exact Aj _);have A9:D (Qy w P pb E W6 (Vt p k (J0 (Q5 p k) [(ra,rb)])) P6):=qh (by rw[B9,<-World.setCell_alloc_past _ _ _ _ BX];exact h6);have CF:B<(pW (Vt p k (J0 (Q5 p k) [(ra,rb)]))).length:=by rw[AU.o];exact x
   have AI:Q5 (Vt p k (J0 (Q5 p k) [(ra,rb)])) B=Q5 p B:=by rw[Q1p C,if_neg AH.o]
   have CG:=qh AI;obtain⟨DD,U,CH,AJ,A1,BA,CI,BB⟩:=A9.o.focRX G.o CF;rw[AI]at AJ A1 CI;obtain⟨A2,A3,rfl,-⟩:=Rd.elem A1.rd 0 AG.o;have CJ:W6.cell? ⟨P.wb,P.wo+(wV (Q5 p k)).toNat * 5+2,N⟩=R (A (R ⟨A2,A3,N⟩) (wX (Q5 p B)).length U):=by rw[m.o];exact AJ
   have DE:=(A1.flatBlk rfl AG.o).2.2.1;have CK:=qh (A1.rest rfl AG.o);have CL:=qh BB;have CM:=qh BA;have CN:=λq=>A9.o.pool.wks.blk.free q;have CO:=A9.o.pool.wks.blk.lt;rw[A9.o.fresh.1]at CN CO;have DF:1<=(wX (Q5 p B)).length:=A0;have CP:(1:Int)<=(wX (Q5 p B)).length:=by omega
   have DG:(1:Int)<=U:=by omega
   clear B9 h6 W z K e1 e3 O f CC f0 f1 AJ A1 BB BA AI o B6;have BC:D (∀u:Bk,u=(if 1=U then A (R ⟨A2,A3,N⟩) 0 0 else A (R ⟨A2,A3+2,N⟩) ((wX (Q5 p B)).length-1) (U-1))->∃Y,Qy w P pb E (W6.setCell ⟨P.wb,P.wo+(wV (Q5 p k)).toNat * 5+2,N⟩ u) (Vt (Vt p k (J0 (Q5 p k) [(ra,rb)])) B (J0 (Q5 p B) ((wX (Q5 p B)).drop 1))) Y):=qh (λu hu=>by
    obtain⟨j,n5,c5,e5⟩:∃(j:Option Addr) (n5 c5:Nat),u=A j n5 c5:=by
     by_cases e:1=U
     ·rw[if_pos e]at hu;exact⟨_,_,_,hu⟩
     ·rw[if_neg e]at hu;exact⟨_,_,_,hu⟩
    have r:=CK.o;rw[show Q4.sz=2 from rfl,<-hu,e5]at r;obtain⟨P5,h5⟩:=CL.o W6 j n5 c5 _ CH (Q1.refl _ _) r CM.o (λb hb=> .inl hb);rw[CG.o]at h5;rw[e5,m.o];exact⟨P5,h5⟩)
   have CQ:D (∀V P7,Qy w P pb E V (Vt (Vt p k (J0 (Q5 p k) [(ra,rb)])) B (J0 (Q5 p B) ((wX (Q5 p B)).drop 1))) P7->(V.cell? ⟨P.wb,P.wo+k * 5,N⟩=R (I Z (wP (Q5 (Vt (Vt p k (J0 (Q5 p k) [(ra,rb)])) B (J0 (Q5 p B) ((wX (Q5 p B)).drop 1))) k)))/\(∀q,V.frozen? ⟨P.wb,q,N⟩=Bm))/\Q9j bk p k w P pb E (.returned (.tuple #[I Z 5,I Z 0])) (V.setCell ⟨P.wb,P.wo+k * 5,N⟩ (I Z 1))):=qh (λV P7 c=>by
    have BD:k<(pW (Vt (Vt p k (J0 (Q5 p k) [(ra,rb)])) B (J0 (Q5 p B) ((wX (Q5 p B)).drop 1)))).length:=by show k<(((pW p).set k _).set B _).length;rw[Br,Br];exact C
    obtain⟨-,-,⟨AK,-,-,-⟩,BE,-,-,-,-⟩:=c.cells BD;obtain⟨P8,h8⟩:=c.stP G.o BD X.o.1;refine⟨⟨AK,BE⟩,g.o 5 _ _ P8 F.o ?_⟩;rw[CB.o];have AA:Vt (Vt (Vt p k (J0 (Q5 p k) [(ra,rb)])) B (J0 (Q5 p B) ((wX (Q5 p B)).drop 1))) k (J7 (Q5 (Vt (Vt p k (J0 (Q5 p k) [(ra,rb)])) B (J0 (Q5 p B) ((wX (Q5 p B)).drop 1))) k) 1)=(pM p,((pW p).set k (J7 (J0 (Q5 p k) [(ra,rb)]) 1)).set B (J0 (Q5 p B) ((wX (Q5 p B)).drop 1)),pA p):=by
     have CR:Q5 (Vt (Vt p k (J0 (Q5 p k) [(ra,rb)])) B (J0 (Q5 p B) ((wX (Q5 p B)).drop 1))) k=J0 (Q5 p k) [(ra,rb)]:=by rw[Q1p (by rw[AU.o];exact x),if_neg (λe=>AH.o e.symm),Q1p C,if_pos rfl]
     rw[CR];unfold Vt;simp only[pM,pW,pA];rw[List.set_comm _ _ (λe=>AH.o e.symm),List.set_set]
    rw[AA]at h8;exact h8)
   by_cases BF:1=U;case' pos=>
    subst BF;have CS:(wX (Q5 p B)).length=1:=by omega
    rw[CS]at CJ CP;go_upto_region 17 with fail
    refine Qq ?_;intro V AB;obtain⟨P7,c⟩:=BC.o (A (R ⟨A2,A3,N⟩) 0 0) (by simp);rw[<-AB]at c
   case' neg=>
    have DH:(1:Int)<U:=by omega
    have DI:(U:Int)≠1:=by omega
    go_upto_region 17 with fail
    refine Qq ?_;intro V AB;obtain⟨P7,c⟩:=BC.o (A (R ⟨A2,A3+2,N⟩) ((wX (Q5 p B)).length-1) (U-1)) (by simp[BF]);rw[<-AB]at c
   all_goals
    clear AB;obtain⟨⟨AK,BE⟩,AA⟩:=CQ.o V P7 c;have CT:=qh AA;clear AA c;have CU:=Ac V _ AK;simp only at CU;go_wp2_with fail
    go_ret2
    exact CT.o
 have AL:(wP (Q5 p k)==3)=Bm:=by simpa using v
 by_cases j:pA p=0
 ·have F:D (Ye bk p k=(0,(pM p,(pW p).set k (J7 (Q5 p k) 4),pA p))):=qh (by rw[J.o,A8,AL,j];rfl)
  rw[j]at W;clear J T;go_wp2_with fail
  go_ret2
  obtain⟨i,S⟩:=H.o.stP G.o C X.o.2.2.2.1;exact g.o 6 _ _ i F.o S
 have BG:(pA p==0)=Bm:=by simpa using j
 cases hp with
 |true=>
  have F:D (Ye bk p k=(0,(pM p,(pW p).set k (J7 (Q5 p k) 3),pA p+1))):=qh (by rw[J.o,A8,AL,BG];rfl);clear J T;go_upto_region 27 with fail
  refine Qq ?_;intro W2 BH;have s:D (Qy w P pb E W2 (pM p,pW p,pA p+1) P):=qh (by rw[BH];exact H.o.stA G.o X.o.2.2.2.2.2);clear BH W z K e1 e2 e3 O f o;obtain⟨-,-,⟨K,-,-,-⟩,O,-,C9,-,-⟩:=s.o.cells (k:=k) C;go_wp2_with fail
  go_ret2
  obtain⟨P3,h3⟩:=s.o.stP G.o (k:=k) C X.o.2.2.1;exact g.o 4 _ _ P3 F.o h3
 |false=>
  have F:D (Ye bk p k=(0,(pM p,(pW p).set k (Q5c (Q5 p k) (Q17 (pW p).length (wV (Q5 p k)) k)),pA p))):=qh (by rw[J.o,A8,AL,BG];rfl);have CV:=qh H.o.pool.at;clear J T;go_wp2_with((go_at_call 121;(with_reducible refine(Qjp _ pb E (pM p) (pW p) (pA p) (wV (Q5 p k)) (k:Int) CV.o BK BL BM BU).mono ?_);rintro e w2 ⟨rfl,rfl⟩))
  go_ret2
  obtain⟨i,S⟩:=H.o.stV G.o C (AT.o (wV (Q5 p k)) k);exact g.o 4 _ _ i F.o S
theorem Q6x(w:Bh)(v1 T:Bk)(xs ys:(Ty.slice Ty.int).den)(H:Rd (Ty.slice Ty.int) w [v1] xs)(J:Rd (Ty.slice Ty.int) w [T] ys):
  Bq prog 70 #[v1,T] w λe w'=>e=.returned (.bool (Qqu (Ty.slice Ty.int) xs ys))/\Bi w.heap.size w w':=by
 obtain⟨p,n,rfl,r,c,L⟩:=(Yz H).gen;obtain⟨q,s,rfl,t,d,M⟩:=(Yz J).gen;clear H J;unfold Bp at c d;by_cases C:xs.length=ys.length
 ·have f:((xs.length:Int) !=(ys.length:Int))=Bm:=by simp[C]
  have U:=qh C;clear C;have g:=qh L;clear L;have h:=qh M;clear M;go_enter func70,ntmps70;go_wp2;go_loopw [13] (λi wr=>∃k:Nat,k<=xs.length/\i=I Z k/\D (xs.take k=ys.take k)/\D (Bi w.heap.size w wr)) (λi _=>xs.length-(Bv i).toNat);case atStart=>exact⟨0,Ak _,rfl,rfl,Ai _ _⟩
  case round=>
   obtain⟨k,u,rfl,V,E⟩:=hrel;by_cases K:k<xs.length
   ·have O:k<ys.length:=by rw[<-U.o];exact K
    obtain⟨b,o,rfl,cs,j,F,W⟩:=g.o k K;obtain⟨v,o',rfl,z,l,G,X⟩:=h.o k O;generalize hxk:xs[k]=x at W;generalize hyk:ys[k]=y at X;have Y:=qh hxk;have a:=qh hyk;clear hxk hyk j l;obtain⟨rfl,_⟩:=W;obtain⟨rfl,_⟩:=X;have F:=F.kept (Am E.o);have G:=G.kept (Am E.o);simp only[Ty.sz,Nat.mul_one]at F G;have c0:=Qac F;have d0:=Qac G;clear F G;by_cases B:x=y
    ·have m:(x !=y)=Bm:=by simp[B]
     have P:=qh B;clear B;go_wp2;go_quiet(fail)
     go_wp2;go_roundw;case rel=>exact⟨k+1,by omega,by go_num,Yb K O V.o (by rw[Y.o,a.o,P.o]),Q6 E.o _⟩
     case measure=>simp[Bv];omega
    ·have m:(x !=y)=Bn:=by simp[B]
     have P:=qh B;clear B;go_wp2;go_quiet(fail)
     go_wp2;go_ret;exact⟨Zi (by simp[Y2 K O (by rw[Y.o,a.o];exact P.o)]),Q6 E.o _⟩
   ·have H:xs.length<=k:=by omega
    have J:ys.length<=k:=by rw[<-U.o];omega
    have S:=qh (Jc V.o H J);go_wp2;go_ret;exact⟨Zi (by simp[S.o]),E.o⟩
 ·have f:((xs.length:Int) !=(ys.length:Int))=Bn:=by simp;omega
  have S:D (xs≠ys):=qh (λe=>C (by rw[e]));clear C L M;go_enter func70,ntmps70;go_wp2;go_ret;exact⟨Zi (by simp[S.o]),Ai _ _⟩
theorem Qec(w:Bh)(v1 V:Bk)(xs ys:(Ty.slice Q4).den)(J:Rd (Ty.slice Q4) w [v1] xs)(K:Rd (Ty.slice Q4) w [V] ys):
  Bq prog 178 #[v1,V] w λe w'=>e=.returned (.bool (Qqu (Ty.slice Q4) xs ys))/\Bi w.heap.size w w':=by
 obtain⟨p,z,rfl,A0,m,M⟩:=(Yz J).gen;obtain⟨q,A1,rfl,A2,n,O⟩:=(Yz K).gen;clear J K;unfold Bp at m n;by_cases F:xs.length=ys.length
 ·have r:((xs.length:Int) !=(ys.length:Int))=Bm:=by simp[F]
  have W:=qh F;clear F;have s:=qh M;clear M;have t:=qh O;clear O;go_enter func178,ntmps178;go_wp2;go_loopw [13] (λi wr=>∃k:Nat,k<=xs.length/\i=I Z k/\D (xs.take k=ys.take k)/\D (Bi w.heap.size w wr)) (λi _=>xs.length-(Bv i).toNat);case atStart=>exact⟨0,Ak _,rfl,rfl,Ai _ _⟩
  case round=>
   obtain⟨k,hk,rfl,X,G⟩:=hrel;by_cases L:k<xs.length
   ·have P:k<ys.length:=by rw[<-W.o];exact L
    obtain⟨b,o,rfl,cs,u,B,Y⟩:=s.o k L;obtain⟨b',o',rfl,A3,v,C,a⟩:=t.o k P;generalize hxk:xs[k]=x at Y;generalize hyk:ys[k]=y at a;have c:=qh hxk;have d:=qh hyk;clear hxk hyk u v;obtain⟨_,_,rfl,⟨rfl,f⟩,⟨rfl,g⟩⟩:=Y;obtain⟨_,_,rfl,⟨rfl,h⟩,⟨rfl,j⟩⟩:=a;try simp only[Cc,Bt]at B C
    have l:=λw=>Q2j f g h j w;clear f g h j;have B:=B.kept (Am G.o);have C:=C.kept (Am G.o);simp only[Ty.sz,Bj]at B C;obtain⟨c0,c1⟩:=Qcy B;obtain⟨d0,d1⟩:=Qcy C;clear B C;by_cases E:x=y
    ·have H:(x.1==y.1 && x.2==y.2)=Bn:=by simp[E]
     have S:=qh E;clear E;rw[H]at l;clear H;go_wp2;go_quiet(fail)
     go_wp2;go_roundw;case rel=>exact⟨k+1,by omega,by go_num,Yb L P X.o (by rw[c.o,d.o,S.o]),Q6 G.o _⟩
     case measure=>simp[Bv];omega
    ·have H:(x.1==y.1 && x.2==y.2)=Bm:=by rw[Es];intro T;apply E;simp only[Bl,beq_iff_eq]at T;exact Prod.ext T.1 T.2
     have S:=qh E;clear E;rw[H]at l;clear H;go_wp2;go_quiet(fail)
     go_wp2;go_ret;exact⟨Zi (by simp[Y2 L P (by rw[c.o,d.o];exact S.o)]),Q6 G.o _⟩
   ·have J:xs.length<=k:=by omega
    have K:ys.length<=k:=by rw[<-W.o];omega
    have U:=qh (Jc X.o J K);go_wp2;go_ret;exact⟨Zi (by simp[U.o]),G.o⟩
 ·have r:((xs.length:Int) !=(ys.length:Int))=Bn:=by simp;omega
  have U:D (xs≠ys):=qh (λe=>F (by rw[e]));clear F M O;go_enter func178,ntmps178;go_wp2;go_ret;exact⟨Zi (by simp[U.o]),Ai _ _⟩
theorem Q88(w:Bh)(v1 V:Bk)(xs ys:(Ty.slice Q4).den)(J:Rd (Ty.slice Q4) w [v1] xs)(K:Rd (Ty.slice Q4) w [V] ys):
  Bq prog 68 #[v1,V] w λe w'=>e=.returned (.bool (Qqu (Ty.slice Q4) xs ys))/\Bi w.heap.size w w':=by
 obtain⟨p,z,rfl,A0,m,M⟩:=(Yz J).gen;obtain⟨q,A1,rfl,A2,n,O⟩:=(Yz K).gen;clear J K;unfold Bp at m n;by_cases F:xs.length=ys.length
 ·have r:((xs.length:Int) !=(ys.length:Int))=Bm:=by simp[F]
  have W:=qh F;clear F;have s:=qh M;clear M;have t:=qh O;clear O;go_enter func68,ntmps68;go_wp2;go_loopw [13] (λi wr=>∃k:Nat,k<=xs.length/\i=I Z k/\D (xs.take k=ys.take k)/\D (Bi w.heap.size w wr)) (λi _=>xs.length-(Bv i).toNat);case atStart=>exact⟨0,Ak _,rfl,rfl,Ai _ _⟩
  case round=>
   obtain⟨k,hk,rfl,X,G⟩:=hrel;by_cases L:k<xs.length
   ·have P:k<ys.length:=by rw[<-W.o];exact L
    obtain⟨b,o,rfl,cs,u,B,Y⟩:=s.o k L;obtain⟨b',o',rfl,A3,v,C,a⟩:=t.o k P;generalize hxk:xs[k]=x at Y;generalize hyk:ys[k]=y at a;have c:=qh hxk;have d:=qh hyk;clear hxk hyk u v;obtain⟨_,_,rfl,⟨rfl,f⟩,⟨rfl,g⟩⟩:=Y;obtain⟨_,_,rfl,⟨rfl,h⟩,⟨rfl,j⟩⟩:=a;try simp only[Cc,Bt]at B C
    have l:=λw=>Qc4 f g h j w;clear f g h j;have B:=B.kept (Am G.o);have C:=C.kept (Am G.o);simp only[Ty.sz,Bj]at B C;obtain⟨c0,c1⟩:=Qcy B;obtain⟨d0,d1⟩:=Qcy C;clear B C;by_cases E:x=y
    ·have H:(x.1==y.1 && x.2==y.2)=Bn:=by simp[E]
     have S:=qh E;clear E;rw[H]at l;clear H;go_wp2;go_quiet(fail)
     go_wp2;go_roundw;case rel=>exact⟨k+1,by omega,by go_num,Yb L P X.o (by rw[c.o,d.o,S.o]),Q6 G.o _⟩
     case measure=>simp[Bv];omega
    ·have H:(x.1==y.1 && x.2==y.2)=Bm:=by rw[Es];intro T;apply E;simp only[Bl,beq_iff_eq]at T;exact Prod.ext T.1 T.2
     have S:=qh E;clear E;rw[H]at l;clear H;go_wp2;go_quiet(fail)
     go_wp2;go_ret;exact⟨Zi (by simp[Y2 L P (by rw[c.o,d.o];exact S.o)]),Q6 G.o _⟩
   ·have J:xs.length<=k:=by omega
    have K:ys.length<=k:=by rw[<-W.o];omega
    have U:=qh (Jc X.o J K);go_wp2;go_ret;exact⟨Zi (by simp[U.o]),G.o⟩
 ·have r:((xs.length:Int) !=(ys.length:Int))=Bn:=by simp;omega
  have U:D (xs≠ys):=qh (λe=>F (by rw[e]));clear F M O;go_enter func68,ntmps68;go_wp2;go_ret;exact⟨Zi (by simp[U.o]),Ai _ _⟩
theorem Qdz(w:Bh)(v1 V:Bk)(xs ys:(Ty.slice Qu).den)(K:Rd (Ty.slice Qu) w [v1] xs)(L:Rd (Ty.slice Qu) w [V] ys):
  Bq prog 69 #[v1,V] w λe w'=>e=.returned (.bool (Qqu (Ty.slice Qu) xs ys))/\Bi w.heap.size w w':=by
 obtain⟨p,A9,rfl,AA,A0,O⟩:=(Yz K).gen;obtain⟨q,AB,rfl,AC,A1,P⟩:=(Yz L).gen;clear K L;unfold Bp at A0 A1;by_cases F:xs.length=ys.length
 ·have A2:((xs.length:Int) !=(ys.length:Int))=Bm:=by simp[F]
  have W:=qh F;clear F;have HX:=qh O;clear O;have HY:=qh P;clear P;go_enter func69,ntmps69;go_wp2;go_loopw [13] (λi wr=>∃k:Nat,k<=xs.length/\i=I Z k/\D (xs.take k=ys.take k)/\D (Bi w.heap.size w wr)) (λi _=>xs.length-(Bv i).toNat);case atStart=>exact⟨0,Ak _,rfl,rfl,Ai _ _⟩
  case round=>
   obtain⟨k,hk,rfl,X,G⟩:=hrel;by_cases M:k<xs.length
   ·have S:k<ys.length:=by rw[<-W.o];exact M
    obtain⟨b,o,rfl,cs,A3,B,Y⟩:=HX.o k M;obtain⟨b',o',rfl,AD,A4,C,a⟩:=HY.o k S;generalize hxk:xs[k]=x at Y;generalize hyk:ys[k]=y at a;have c:=qh hxk;have d:=qh hyk;clear hxk hyk A3 A4;obtain⟨_,_,rfl,f,g⟩:=Y;have A5:=qh f;obtain⟨_,_,rfl,⟨rfl,h⟩,⟨rfl,j⟩⟩:=f;have A6:=qh g;obtain⟨_,_,rfl,⟨rfl,l⟩,⟨rfl,m⟩⟩:=g;obtain⟨_,_,rfl,n,r⟩:=a;have A7:=qh n;obtain⟨_,_,rfl,⟨rfl,s⟩,⟨rfl,t⟩⟩:=n;have A8:=qh r;obtain⟨_,_,rfl,⟨rfl,u⟩,⟨rfl,v⟩⟩:=r;try simp only[Cc,Bt]at B C
    clear A5 A6 A7 A8;have z:=λw=>Qgw h j l m s t u v w;clear h j l m s t u v;have B:=B.kept (Am G.o);have C:=C.kept (Am G.o);simp only[Ty.sz,Bj]at B C;obtain⟨c0,c1,c2,c3⟩:=Qm3 B;obtain⟨d0,d1,d2,d3⟩:=Qm3 C;clear B C;by_cases E:x=y
    ·have H:(x.1.1==y.1.1 && x.1.2==y.1.2 && x.2.1==y.2.1 && x.2.2==y.2.2)=Bn:=by simp[E]
     have T:=qh E;clear E;rw[H]at z;clear H;go_wp2;go_quiet(fail)
     go_wp2;go_roundw;case rel=>exact⟨k+1,by omega,by go_num,Yb M S X.o (by rw[c.o,d.o,T.o]),Q6 G.o _⟩
     case measure=>simp[Bv];omega
    ·have H:(x.1.1==y.1.1 && x.1.2==y.1.2 && x.2.1==y.2.1 && x.2.2==y.2.2)=Bm:=by rw[Es];intro J;apply E;simp only[Bl,beq_iff_eq]at J;exact Prod.ext (Prod.ext J.1.1.1 J.1.1.2) (Prod.ext J.1.2 J.2)
     have T:=qh E;clear E;rw[H]at z;clear H;go_wp2;go_quiet(fail)
     go_wp2;go_ret;exact⟨Zi (by simp[Y2 M S (by rw[c.o,d.o];exact T.o)]),Q6 G.o _⟩
   ·have K:xs.length<=k:=by omega
    have L:ys.length<=k:=by rw[<-W.o];omega
    have U:=qh (Jc X.o K L);go_wp2;go_ret;exact⟨Zi (by simp[U.o]),G.o⟩
 ·have A2:((xs.length:Int) !=(ys.length:Int))=Bn:=by simp;omega
  have U:D (xs≠ys):=qh (λe=>F (by rw[e]));clear F O P;go_enter func69,ntmps69;go_wp2;go_ret;exact⟨Zi (by simp[U.o]),Ai _ _⟩
theorem Q96(w:Bh)(vs a:List Bk)(x y:Qb)(b:Rd Q3 w vs x)(c:Rd Q3 w a y):
  Bq prog 123 #[.agg vs.toArray,.agg a.toArray] w λe w'=>e=.returned (.bool (Qqu Q3 x y))/\Bi w.heap.size w w':=by
 obtain⟨P,x1,x2,x3,C⟩:=x;obtain⟨S,T,U,F,G⟩:=y;obtain⟨k,l,m,n,rfl,-,⟨-,-,d⟩,⟨-,-,f⟩⟩:=b.agentV;obtain⟨o,p,q,r,rfl,-,⟨-,-,g⟩,⟨-,-,i⟩⟩:=c.agentV;have s:=qh d;have t:=qh g;have u:=qh f;have v:=qh i;clear b c d g f i;obtain⟨z,V⟩:∃E,E=Qqu (Ty.slice Ty.int) x3 F:=⟨_,rfl⟩;obtain⟨E4,W⟩:∃E,E=Qqu (Ty.slice Q4) C G:=⟨_,rfl⟩;have HP:D (Qqu Q3 (P,x1,x2,x3,C) (S,T,U,F,G)=(P==S && x1==T && x2==U && z && E4)):=qh (by rw[V,W,Eo,Z1];simp only[Bl,beq_iff_eq,Z1];exact⟨λh=>by simp only[Prod.mk.injEq]at h;simp[h],λh=>by simp[h]⟩);have A0:=qh V.symm;have A1:=qh W.symm;clear V W;go_enter func123,ntmps123;go_upto_region 1 with fail
 refine Qq ?_;intro X Y;have H:D (Bi w.heap.size w X):=qh (by rw[Y];go_grown);have j:D (X.heap[w.heap.size]?=R (.cells #[I Z P,I Z x1,I Z x2,A k x3.length l,A m C.length n] 134 (0,0))/\X.heap[w.heap.size+1]?=R (.cells #[I Z S,I Z T,I Z U,A o F.length p,A q G.length r] 134 (0,0))):=qh (by rw[Y];exact Jn w _ _ _ _);clear Y;obtain⟨⟨a0,a1,a2,J,K⟩,-⟩:=Y0 j.o.1;obtain⟨⟨b0,b1,b2,L,M⟩,-⟩:=Y0 j.o.2;go_wp2_with(first|((go_at_call 70;(with_reducible refine(Q6x _ _ _ x3 F (s.o.kept (Am H.o)) (t.o.kept (Am H.o))).mono ?_);rintro e w3 ⟨rfl,B⟩;rw[A0.o];have O:=qh (Q0 H.o B);have J:=(Am B).cell _ _ J;have K:=(Am B).cell _ _ K;have L:=(Am B).cell _ _ L;have M:=(Am B).cell _ _ M;clear B))|((go_at_call 178;(with_reducible refine(Qec _ _ _ C G (u.o.kept (Am O.o)) (v.o.kept (Am O.o))).mono ?_);rintro e w4 ⟨rfl,B⟩;rw[A1.o];have A2:=qh (Q0 O.o B);have J:=(Am B).cell _ _ J;have K:=(Am B).cell _ _ K;have L:=(Am B).cell _ _ L;have M:=(Am B).cell _ _ M;clear B))|fail)
 all_goals(go_ret;exact⟨Q2 (by rw[HP.o];simp_all),(by first|with_reducible exact A2.o|with_reducible exact O.o|with_reducible exact H.o)⟩)
theorem Qbm(w:Bh)(vs c:List Bk)(x y:Qqb)(d:Rd Qc w vs x)(f:Rd Qc w c y):
  Bq prog 67 #[.agg vs.toArray,.agg c.toArray] w λe w'=>e=.returned (.bool (Qqu Qc x y))/\Bi w.heap.size w w':=by
 obtain⟨T,x1,x2,x3,J⟩:=x;obtain⟨U,V,K,L,M⟩:=y;obtain⟨o,p,q,r,s,t,rfl,-,⟨-,-,g⟩,⟨-,-,i⟩,⟨-,-,j⟩⟩:=d.workerV;obtain⟨u,v,z,A0,A1,A2,rfl,-,⟨-,-,k⟩,⟨-,-,l⟩,⟨-,-,m⟩⟩:=f.workerV;have H2:=qh g;have A3:=qh k;have H3:=qh i;have A4:=qh l;have H4:=qh j;have A5:=qh m;clear d f g k i l j m;obtain⟨E2,W⟩:∃E,E=Qqu (Ty.slice Q4) x2 K:=⟨_,rfl⟩;obtain⟨E3,X⟩:∃E,E=Qqu (Ty.slice Qu) x3 L:=⟨_,rfl⟩;obtain⟨E4,Y⟩:∃E,E=Qqu (Ty.slice Ty.int) J M:=⟨_,rfl⟩;have HP:D (Qqu Qc (T,x1,x2,x3,J) (U,V,K,L,M)=(T==U && x1==V && E2 && E3 && E4)):=qh (by rw[W,X,Y,Eo,Z1];simp only[Bl,beq_iff_eq,Z1];exact⟨λh=>by simp only[Prod.mk.injEq]at h;simp[h],λh=>by simp[h]⟩);have A6:=qh W.symm;have A7:=qh X.symm;have A8:=qh Y.symm;clear W X Y;go_enter func67,ntmps67;go_upto_region 1 with fail
 refine Qq ?_;intro a b;have O:D (Bi w.heap.size w a):=qh (by rw[b];go_grown);have n:D (a.heap[w.heap.size]?=R (.cells #[I Z T,I Z x1,A o x2.length p,A q x3.length r,A s J.length t] 99 (0,0))/\a.heap[w.heap.size+1]?=R (.cells #[I Z U,I Z V,A u K.length v,A z L.length A0,A A1 M.length A2] 99 (0,0))):=qh (by rw[b];exact Jn w _ _ _ _);clear b;obtain⟨⟨a0,a1,a2,C,F⟩,-⟩:=Y0 n.o.1;obtain⟨⟨b0,b1,b2,G,H⟩,-⟩:=Y0 n.o.2;go_wp2_with(first|((go_at_call 68;(with_reducible refine(Q88 _ _ _ x2 K (H2.o.kept (Am O.o)) (A3.o.kept (Am O.o))).mono ?_);rintro e w2 ⟨rfl,B⟩;rw[A6.o];have P:=qh (Q0 O.o B);have C:=(Am B).cell _ _ C;have F:=(Am B).cell _ _ F;have G:=(Am B).cell _ _ G;have H:=(Am B).cell _ _ H;clear B))|((go_at_call 69;(with_reducible refine(Qdz _ _ _ x3 L (H3.o.kept (Am P.o)) (A4.o.kept (Am P.o))).mono ?_);rintro e w3 ⟨rfl,B⟩;rw[A7.o];have S:=qh (Q0 P.o B);have C:=(Am B).cell _ _ C;have F:=(Am B).cell _ _ F;have G:=(Am B).cell _ _ G;have H:=(Am B).cell _ _ H;clear B))|((go_at_call 70;(with_reducible refine(Q6x _ _ _ J M (H4.o.kept (Am S.o)) (A5.o.kept (Am S.o))).mono ?_);rintro e w4 ⟨rfl,B⟩;rw[A8.o];have A9:=qh (Q0 S.o B);have C:=(Am B).cell _ _ C;have F:=(Am B).cell _ _ F;have G:=(Am B).cell _ _ G;have H:=(Am B).cell _ _ H;clear B))|fail)
 all_goals(go_ret;exact⟨Q2 (by rw[HP.o];simp_all),(by first|with_reducible exact A9.o|with_reducible exact S.o|with_reducible exact P.o|with_reducible exact O.o)⟩)
theorem Qj5(w:Bh)(v1 v2:Bk)(xs ys:(Ty.slice Q3).den)(B:Rd (.slice Q3) w [v1] xs)(C:Rd (.slice Q3) w [v2] ys):
  Bq prog 122 #[v1,v2,.func (.func 123) #[] #[]] w λe w'=>e=.returned (.bool (Qqu (.slice Q3) xs ys))/\Bi w.heap.size w w':=by
 obtain⟨p,c,e1,-,A7,B⟩:=J6 B;obtain⟨q,c',e2,-,A8,C⟩:=J6 C;simp only[Fh,and_true]at e1 e2;subst e1;subst e2;unfold Bp at A7 A8;have H1:=qh B;have H2:=qh C;clear B C;have A9:Vg prog 123:=by intro _ _;kernel_rfl
 unfold Vg at A9;by_cases F:Bx xs=Bx ys;rotate_left
 ·have AA:(((Bx xs:Nat):Int) !=((Bx ys:Nat):Int))=Bn:=by simp;omega
  have h:D (¬xs=ys):=qh (λe=>F (by rw[e]));clear F;go_enter func122,ntmps122;go_wp2_with fail
  go_ret;exact⟨Q2 (Vh h.o).symm,Ai _ _⟩
 have AA:(((Bx xs:Nat):Int) !=((Bx ys:Nat):Int))=Bm:=by simp[F]
 have HL:=qh F;clear F;go_enter func122,ntmps122;go_wp2_with fail
 go_loopw [17] (λi wr=>∃k:Nat,k<=Bx xs/\i=I Z k/\D (List.take k xs=List.take k ys)/\D (Bi w.heap.size w wr)) (λi _=>Bx xs-(Bv i).toNat);case atStart=>exact⟨0,Ak _,rfl,rfl,Ai _ _⟩
 case round=>
  obtain⟨k,hk,rfl,HT,G⟩:=hrel;by_cases L:k<Bx xs
  ·have j:k<Bx ys:=by rw[<-HL.o];exact L
   obtain⟨b1,o1,rfl,M⟩:=Rd.elem (H1.o.kept (Am G.o)) k L;obtain⟨b2,o2,rfl,O⟩:=Rd.elem (H2.o.kept (Am G.o)) k j;generalize hxk:xs[k]=x at M;generalize hyk:ys[k]=y at O;have A2:=qh hxk;have A3:=qh hyk;clear hxk hyk;obtain⟨P,x1,x2,x3,S⟩:=x;obtain⟨T,U,V,W,X⟩:=y;obtain⟨l,m,n,o,⟨Y,r,s,a,b⟩,-⟩:=M.agent;obtain⟨t,u,v,z,⟨d,d1,d2,f,g⟩,-⟩:=O.agent;have HA:=qh (M.rdv a b);have HE:=qh (O.rdv f g);simp only[Ty.sz,Bj]at Y r s a b d d1 d2 f g;have A4:=Ac wr _ Y;have A5:=Ac wr _ d;simp only at A4 A5;have AB:(k:Int)<((Bx ys:Nat):Int):=by omega
   clear M O;go_upto_region 7 with fail
   refine Qq ?_;intro H A0;have E:D (Bi wr.heap.size wr H):=qh (by rw[A0];go_grown);have A6:D (H.heap[wr.heap.size]?=R (.cells #[I Z P,I Z x1,I Z x2,A l x3.length m,A n S.length o] 134 (0,0))/\H.heap[wr.heap.size+1]?=R (.cells #[I Z T,I Z U,I Z V,A t W.length u,A v X.length z] 134 (0,0))):=qh (by rw[A0];exact Jn wr _ _ _ _);clear A0 Y r s a b d d1 d2 f g A4 A5;obtain⟨⟨Y,r,s,a,b⟩,-⟩:=Y0 A6.o.1;obtain⟨⟨d,d1,d2,f,g⟩,-⟩:=Y0 A6.o.2;cases hp:Qqu Q3 (P,x1,x2,x3,S) (T,U,V,W,X)
   ·have J:=qh hp
    clear hp;go_wp2_with fail
    refine(Q96 H [I Z P,I Z x1,I Z x2,A l x3.length m,A n S.length o] [I Z T,I Z U,I Z V,A t W.length u,A v X.length z] _ _ (HA.o.kept (Am E.o)) (HE.o.kept (Am E.o))).mono ?_;rintro e w6 ⟨rfl,K⟩;have A1:=qh (Q0 (Q0 G.o E.o) K);clear K;rw[J.o];go_wp2;go_ret;exact⟨Q2 (Vh (Y2 L j (by rw[A2.o,A3.o];exact Zc.1 J.o))).symm,A1.o⟩
   ·have J:=qh hp
    clear hp;go_wp2_with fail
    refine(Q96 H [I Z P,I Z x1,I Z x2,A l x3.length m,A n S.length o] [I Z T,I Z U,I Z V,A t W.length u,A v X.length z] _ _ (HA.o.kept (Am E.o)) (HE.o.kept (Am E.o))).mono ?_;rintro e w6 ⟨rfl,K⟩;have A1:=qh (Q0 (Q0 G.o E.o) K);clear K;rw[J.o];go_wp2;go_roundw;case rel=>exact⟨k+1,by omega,by go_num,Yb L j HT.o (by rw[A2.o,A3.o];exact Z1.1 J.o),A1.o⟩
    case measure=>simp[Bv];omega
  ·have B:Bx xs<=k:=by omega
   have C:Bx ys<=k:=by rw[<-HL.o];omega
   have h:=qh (Jc HT.o B C);go_wp2_with fail
   go_ret;exact⟨Q2 (Ju h.o).symm,G.o⟩
theorem Qkn(w:Bh)(v1 v2:Bk)(xs ys:(Ty.slice Qc).den)(B:Rd (.slice Qc) w [v1] xs)(C:Rd (.slice Qc) w [v2] ys):
  Bq prog 66 #[v1,v2,.func (.func 67) #[] #[]] w λe w'=>e=.returned (.bool (Qqu (.slice Qc) xs ys))/\Bi w.heap.size w w':=by
 obtain⟨p,c,e1,-,AC,B⟩:=J6 B;obtain⟨q,c',e2,-,AD,C⟩:=J6 C;simp only[Fh,and_true]at e1 e2;subst e1;subst e2;unfold Bp at AC AD;have H1:=qh B;have H2:=qh C;clear B C;have AE:Vg prog 67:=by intro _ _;kernel_rfl
 unfold Vg at AE;by_cases F:Bx xs=Bx ys;rotate_left
 ·have AF:(((Bx xs:Nat):Int) !=((Bx ys:Nat):Int))=Bn:=by simp;omega
  have l:D (¬xs=ys):=qh (λe=>F (by rw[e]));clear F;go_enter func66,ntmps66;go_wp2_with fail
  go_ret;exact⟨Q2 (Vh l.o).symm,Ai _ _⟩
 have AF:(((Bx xs:Nat):Int) !=((Bx ys:Nat):Int))=Bm:=by simp[F]
 have HL:=qh F;clear F;go_enter func66,ntmps66;go_wp2_with fail
 go_loopw [17] (λi wr=>∃k:Nat,k<=Bx xs/\i=I Z k/\D (List.take k xs=List.take k ys)/\D (Bi w.heap.size w wr)) (λi _=>Bx xs-(Bv i).toNat);case atStart=>exact⟨0,Ak _,rfl,rfl,Ai _ _⟩
 case round=>
  obtain⟨k,hk,rfl,HT,G⟩:=hrel;by_cases L:k<Bx xs
  ·have m:k<Bx ys:=by rw[<-HL.o];exact L
   obtain⟨b1,o1,rfl,M⟩:=Rd.elem (H1.o.kept (Am G.o)) k L;obtain⟨b2,o2,rfl,O⟩:=Rd.elem (H2.o.kept (Am G.o)) k m;generalize hxk:xs[k]=x at M;generalize hyk:ys[k]=y at O;have A7:=qh hxk;have A8:=qh hyk;clear hxk hyk;obtain⟨P,x1,x2,x3,S⟩:=x;obtain⟨T,U,V,W,X⟩:=y;obtain⟨n,o,r,s,t,u,⟨Y,v,a,b,d⟩,-⟩:=M.worker;obtain⟨z,A0,A1,A2,A3,A4,⟨f,d1,g,h,j⟩,-⟩:=O.worker;have HA:=qh (M.rdvW a b d);have HE:=qh (O.rdvW g h j);simp only[Ty.sz,Bj]at Y v a b d f d1 g h j;have A9:=Ac wr _ Y;have AA:=Ac wr _ f;simp only at A9 AA;have AG:(k:Int)<((Bx ys:Nat):Int):=by omega
   clear M O;go_upto_region 7 with fail
   refine Qq ?_;intro H A5;have E:D (Bi wr.heap.size wr H):=qh (by rw[A5];go_grown);have AB:D (H.heap[wr.heap.size]?=R (.cells #[I Z P,I Z x1,A n x2.length o,A r x3.length s,A t S.length u] 99 (0,0))/\H.heap[wr.heap.size+1]?=R (.cells #[I Z T,I Z U,A z V.length A0,A A1 W.length A2,A A3 X.length A4] 99 (0,0))):=qh (by rw[A5];exact Jn wr _ _ _ _);clear A5 Y v a b d f d1 g h j A9 AA;obtain⟨⟨Y,v,a,b,d⟩,-⟩:=Y0 AB.o.1;obtain⟨⟨f,d1,g,h,j⟩,-⟩:=Y0 AB.o.2;cases hp:Qqu Qc (P,x1,x2,x3,S) (T,U,V,W,X)
   ·have J:=qh hp
    clear hp;go_wp2_with fail
    refine(Qbm H [I Z P,I Z x1,A n x2.length o,A r x3.length s,A t S.length u] [I Z T,I Z U,A z V.length A0,A A1 W.length A2,A A3 X.length A4] _ _ (HA.o.kept (Am E.o)) (HE.o.kept (Am E.o))).mono ?_;rintro e w6 ⟨rfl,K⟩;have A6:=qh (Q0 (Q0 G.o E.o) K);clear K;rw[J.o];go_wp2;go_ret;exact⟨Q2 (Vh (Y2 L m (by rw[A7.o,A8.o];exact Zc.1 J.o))).symm,A6.o⟩
   ·have J:=qh hp
    clear hp;go_wp2_with fail
    refine(Qbm H [I Z P,I Z x1,A n x2.length o,A r x3.length s,A t S.length u] [I Z T,I Z U,A z V.length A0,A A1 W.length A2,A A3 X.length A4] _ _ (HA.o.kept (Am E.o)) (HE.o.kept (Am E.o))).mono ?_;rintro e w6 ⟨rfl,K⟩;have A6:=qh (Q0 (Q0 G.o E.o) K);clear K;rw[J.o];go_wp2;go_roundw;case rel=>exact⟨k+1,by omega,by go_num,Yb L m HT.o (by rw[A7.o,A8.o];exact Z1.1 J.o),A6.o⟩
    case measure=>simp[Bv];omega
  ·have B:Bx xs<=k:=by omega
   have C:Bx ys<=k:=by rw[<-HL.o];omega
   have l:=qh (Jc HT.o B C);go_wp2_with fail
   go_ret;exact⟨Q2 (Ju l.o).symm,G.o⟩
end Go.Proofs.YthbpkpnioaniiaaGreat
