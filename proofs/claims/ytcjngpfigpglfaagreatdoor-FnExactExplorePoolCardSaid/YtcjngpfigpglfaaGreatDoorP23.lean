import Derived.Test.YtcjngpfigpglfaaGreatDoorP22
set_option maxHeartbeats 0
set_option maxRecDepth 100000
set_option linter.all false
namespace Go.Proofs.YtcjngpfigpglfaaGreatDoor
open Go.RowKit Go.Proofs.Tryz
open Go.Value renaming int->I,slice->A
open Go.IntKind renaming i64->Z
open Option renaming none->N,some->R
open OC(oC)
open OR(oR)
open JN(jN)
open Bool renaming true->Bn,false->Bm,and_eq_true->Bi
open Go renaming World->Bh,maxLen->Bu,Calls->Bv,heap_alloc_new->Bg
open Go.RowKit renaming Below->Bp,intOf->By
open Go.Value.slice renaming injEq->Ci
open Int renaming toNat_natCast->Bq
open List renaming cons_append->Bw,nil_append->Bs,foldl_append->Dj,length_singleton->Dg,append_nil->Cl,not_mem_nil->Cs,length->Ca,length_take->Cf,length_map->De,getElem?_take->Cm,nodup_nil->Gq,length_cons->Br
open Nat renaming reduceAdd->Bj,mul_one->Cc,zero_add->Cg
open Option.some renaming injEq->Bt
def Qr9(R1:Option Q10)(B:Nat)(w:Bh)(e:Ending)(w':Bh):Prop:=Bp B w w'/\
 ((R1=N/\e=.returned (.tuple #[.pointer N,I Z 4]))\/∃W b G,R1=R W/\e=.returned (.tuple #[.pointer (R ⟨b,0,N⟩),()])/\Q1b B b 0 Qif w' (Qxg W) G)
def Qx4{w b T B v1 C E F G H J K L}{x:Ye}(h:w.heap[b]?=R (.cells #[B,v1,C,E,F,G,H,J,K,L] T))(r:Rd Qv w [B,v1,C,E,F,G,H] x):At Qv w b 0 x:=
 ⟨_,rfl,λj M=>by
  match j,M with
  |0,_|1,_|2,_|3,_|4,_|5,_|6,_=>exact Q6 h rfl,r⟩
def Qrl:Qya prog 88 90 Qak:=Qya.mk' underlying88 (by kernel_rfl)
theorem Qma{w}(p0 c0)(bk:List Qy0)(C3:Rd (.slice Jl) w [A p0 bk.length c0] bk)(C4:bk.length<=Bu)(C5:∀n∈bk,Qbs n)(C6:∀n∈bk,Yd n=Bn)(vs)(p:Ye)(hp:Rd Qv w vs p)(AJ:Q0y p)(most)(EV:1<=most)(EW:most<=400)(C7:Lib.TabIs prog w "internal/strconv.uint64pow10" .u64 Lib.pow10Tab):
  Bv prog 75 #[A p0 bk.length c0,.agg vs.toArray,I Z most] w (Qr9 (Q4m bk p most (most.toNat+1) 0 (Jp p)) w w):=by
 obtain⟨v0,v1,v2,v3,v4,v5,v6,rfl⟩:=Qda (Rd.length hp);have DQ:=qh C3;have DR:=qh C4;have DS:=qh C5;have AK:=qh C6;have B5:=qh hp;have DT:=qh AJ;have HT:=qh (Lib.tabBelow_of_tabIs C7);have B6:=qh (Qf9 AJ);have B7:=qh (Q52 AJ);obtain⟨A4,hR⟩:∃A4,A4=Q4m bk p most (most.toNat+1) 0 (Jp p):=⟨_,rfl⟩;have HR:=qh hR;rw[<-hR];have DU:= @run_makeMap prog;clear C3 hp AJ C7 hR C5 C6;go_enter func75,ntmps75;go_upto_region 1 with fail
 refine Qp λU AL=> ?_;have C8:=D (U,oC w.heap.size #[v0,v1,v2,v3,v4,v5,v6] 46) (by rw[AL];exact Bg w _);have A0:=D (w,U) (by rw[AL];go_grown);have DV:=D (U.heap.size=w+1) (by rw[AL];simp);clear AL;obtain⟨a0,a1,a2,a3,a4,a5,a6⟩:=Q0t C8;go_upto_region 2 with((go_at_call 132;(with_reducible refine(Q7j [v0,v1,v2,v3,v4,v5,v6] p (B5.o.kb A0) B7).mono ?_);rintro e w1 ⟨us,rfl,Y,E⟩;obtain⟨P0,px,cx,rfl,-⟩:=Y.poolShape B6.o.1 B6.o.2;have C9:=qh Y;have B8:=qh E;clear Y E))
 refine Qp λP B9=> ?_;have CA:=B8.o.size;have CB:=D (∃G,Q1b w (w1+1) 0 Qif P (Qxg (Jp p)) G) (by
  obtain⟨F,o,hF,hG⟩:=C9.o;have h0:=DV.o;have o1:Ow Qak w1 _ (Qy6 (Q7t p)) F:=⟨_,[(),I Z (-1),()],F,[],rfl,by simp,o,[_],[_,_],[],[],rfl,rfl,⟨rfl,(show Qyn 0 by unfold Qyn;omega),rfl⟩,[_],[_],[],[],rfl,rfl,⟨rfl,(show Qyn (-1)by unfold Qyn;omega),rfl⟩,⟨rfl,by unfold Qyn Qy6 Q7t fF;simp,rfl⟩⟩;have o2:=Qqn (Bg w1 (.cells _ 90)) (o1.kept λc C=>Az _ _ _ (hG c C).2)
  have hp:=Q1b.box (B:=w) (t:=Qif) (x:=Qxg (Jp p)) 92 (vs:=[A (R (w1,0)) 1 1,(),()]) (F:=w1.heap.size::F)
   ⟨[_],[_,_],_,[],rfl,by simp,o2,[_],[_],[],[],rfl,rfl,⟨rfl,by unfold Qyn Qxg Jp;simp,rfl⟩,⟨rfl,by unfold Qyn Qxg Jp;simp,rfl⟩⟩ (Ar.2 ⟨λh=>by have:=(hG _ h).2;omega,hF⟩) (λc C=>(Aq.1 C).elim (λe=>by omega) λh=>by have:=(hG c h).1;omega) (by simp;omega)
  rw[B9];exact⟨_,by simpa using hp⟩)
 have AM:=D (U,P) (by rw[B9];exact(B8.o.alloc CA _).alloc (by simp;omega) _);have BA:=D (w,P) (Q0 A0 (AM.o.mono (Aj _)));have CC:=D (∃G,Qyk w (w1+1) P [] w w (P.alloc (.map #[] 0)) [] (Jp p) G) (let ⟨G,h⟩:=CB.o;⟨G,Qyk.start h BA BA.o.size⟩);have HA:=D (∀V,Bp U U V->At Qv V w 0 p) (λV h=>At.ofBox (us:=[v0,v1,v2,v3,v4,v5,v6]) (Qf C8 h) (B5.o.kb (A0.o.trans (h.mono A0.o.size))));have CD:=D ((Q86 p).length<=10000000000) (Qu0 B5.o.fits B7);have BB:=D (Bp U U (P.alloc (.map #[] 0))) (AM.o.alloc AM.o.size _);clear a0 a1 a2 a3 a4 a5 a6 B9 CA CB;go_upto_region 3 with(first|((go_at_call 133;(with_reducible refine(Qtu w 0 p (HA.o _ BB) (by have:=CD.o;omega) (HT.o.on (A0.o.trans (BB.o.mono A0.o.size))).here).mono ?_);rintro e w2 ⟨rfl,E⟩;have BC:=qh E;obtain⟨G2,CE⟩:=CC.o;have BD:=qh (CE.call E);clear E CE))|((refine Q78 rfl (.inr rfl) (Q86 p) rfl rfl BD.o.seen (by unfold Bu;simp) (by unfold Bu;have:=CD.o;omega) ?_;intro w3 g M;have CF:=qh (BD.o.put (ks':=[Q86 p]) g M);clear g M)))
 go_wp2_with fail
 clear CC BD BC AM BA BB C9 B8 B7 B6 DU;go_loopw [10] (λx wr=>∃(i f:Nat) (W:Q10) (G:List Nat),x=I Z i/\i<=W.1.length/\(W.1.length:Int)<=most/\Hd (Q4m bk p most f i W=A4)/\Hd (f+i=most.toNat+1)/\Hd (Q88 bk p W)/\Hd (0<=W.2.1/\0<=W.2.2/\W.2.1+W.2.2<=4 * i)/\Hd (Qyk w (w1+1) P [] w w wr (Q96 W) W G)) (λx _=>500-(By x).toNat);case atStart=>exact⟨0,_,_,_,rfl,Ak _,(by simp[Jp];omega),HR.o.symm,by rfl,Q88.start DT,qh (by simp[Jp]),CF.o⟩
 clear CF;rename Bh=>wo
 obtain⟨i,f,W,G,rfl,hi,hW,CG,CH,A5,DW,S⟩:=hrel;obtain⟨⟨pl,cl,d0⟩,d1,d2,-⟩:=S.o.cell;have BE:=S.o.pt0.lt;have EX:=S.o.size.1;by_cases T:i<W.1.length
 ·obtain⟨f,rfl⟩:∃f',f=f'+1:=⟨f-1,by have:=CH.o;omega⟩
  have CI:=qh (CG.o▸(Qla (bk:=bk) (p:=p) (most:=most) (f:=f) T).symm);obtain⟨X,hX⟩:∃X,X=Q04 p W i:=⟨_,rfl⟩;have CJ:X∈W.1:=hX▸Q8x T;have CK:(Qxg W).1[i]'(by simpa[Qxg]using T)=Qy6 X:=by rw[hX];unfold Q04 Qxg;simp only[List.getElem_map];rw[Ab,Ad T];rfl
  obtain⟨BF,-,DX⟩:=A5.o.pool X CJ;have AN:=qh hX;have CL:=qh BF;have BG:=D ((pW (fP X)).length<=4) ((Q1c BF).1.2);obtain⟨H0,f0⟩:=Qyj.fst S.o.pt0;obtain⟨b2,o2,EY,H,BH,f2⟩:=Qyj.elem f0.hold i (by simpa[Qxg]using T);have AO:=f2.hold;rw[CK]at AO;obtain⟨us,CM,CN,DY⟩:=AO.row;have A6:∀c∈H,c∈G:=λc C=>f0.sub c (f2.sub c C);have CO:=AO.young.2.2.1;rw[d0]at BH;simp only[Bt,Ci]at BH;obtain⟨rfl,-,rfl⟩:=BH;have DZ:=qh d0;obtain⟨u0,u1,u2,u3,u4,u5,u6,u7,u8,u9,rfl⟩:=Qu1 CM;obtain⟨t1,t2,F1,F2,et,rfl,BI,CP⟩:=DY;obtain⟨q1,n1,c1,g1,g2,g3,q2,n2,c2,q3,n3,c3,g4,rfl⟩:=Qb1 BI.rd;obtain⟨s7,s8,s9,rfl⟩:=Qwe CP.length;simp only[Bw,Bs,List.cons.injEq,and_true]at et;obtain⟨rfl,rfl,rfl,rfl,rfl,rfl,rfl,rfl,rfl,rfl⟩:=et;obtain⟨_,_,_,_,j,rfl,⟨rfl,CQ,rfl⟩,_,_,_,_,rfl,rfl,⟨rfl,-,rfl⟩,⟨rfl,-,rfl⟩⟩:=CP;simp only[Bw,Bs,List.cons.injEq,and_true]at j;obtain⟨rfl,rfl,rfl⟩:=j;obtain⟨r0,r1,r2,r3,r4,r5,r6,r7,r8,r9⟩:=Qw0 CN;simp only[Ty.sz,Bj]at r0 r1 r2 r3 r4 r5 r6 r7 r8 r9;have BC:=D (b2∈(w1.heap.size+1)::G) ((Aq.1 f2.subb).elim (λe=>e▸Ae) λh=>Aa _ (f0.sub _ h));have CR:=qh BI;have CS:=qh CQ;have A1:=D (∀c∈F1,c∈G/\c≠b2) (λc C=>⟨A6 c (by simp[C]),λe=>CO (by simp[<-e,C])⟩);have A7:=qh BE;have EZ:W.1.length<=400:=by omega
  clear f0 f2 AO CN CM BI A6 CO CK CJ BF DX hX CQ;go_upto_region 7 with fail
  refine Qp λW6 AP=> ?_;have A8:=D (wo,W6) (by rw[AP];go_grown);have BJ:=D (W6,oC wo.heap.size #[A q1 n1 c1,I Z g1,I Z g2,I Z g3,A q2 n2 c2,A q3 n3 c3,I Z g4,I Z (Qy6 X).2.1,I Z (Qy6 X).2.2.1,I Z (Qy6 X).2.2.2] 90) (by rw[AP];exact Bg wo _);have AQ:=D (W6.heap.size=wo+1) (by rw[AP];simp);have E0:=qh (Qx4 BJ (CR.o.rd.kb A8));have F0:=D (Qyn (fD X)) (CS.o);clear AP d0 d1 d2 r0 r1 r2 r3 r4 r5 r6 r7 r8 r9 CS;go_wp2_with((go_at_call 134;(with_reducible refine(Que (fP X) E0 (by have:=BG.o;omega)).mono ?_);rintro e w7 ⟨v,rfl,ho,E⟩;have BK:=qh ho;have A2:=qh E;clear ho E;obtain⟨F3,F4,rfl,-,-⟩:=BK.o.form))
  obtain⟨FL,CT,-,BL⟩:=BK.o.ow rfl;have CU:=qh CT;have BM:=D (∀x∈Q2x (fP X),0<=x/\x<(pW (fP X)).length) (λx hx=>Qiw hx);have CV:=Qeu (fP X);obtain⟨L,hL⟩:∃L:List Int,L=Q2x (fP X):=⟨_,rfl⟩;rw[<-hL]at CU BM CV;rw[<-hL];have CW:=qh hL;have F5:L.length<=4:=by have:=BG.o;omega
  have E1:=D (Qyk w (w1+1) P (wo.heap.size::(F1++FL)) w w7 w7 (Q96 W) W G) (by
   have h6:=AQ.o;have F6:=A8.o.size;have F7:=A2.o.size;have h:=(S.o.call A8).call A2;have C4:=S.o.seen.lt;have BN:∀c∈FL,W6<=c/\c<w7.heap.size:=λc C=>⟨(BL c C).1,(BL c C).2.lt⟩;have CX:∀c,c∈(w1.heap.size+1)::G->c∉F1->c∉wo.heap.size::(F1++FL):=λc C h1 O=>by
    have F8:c<wo.heap.size:=(Aq.1 C).elim (λe=>e▸A7.o.1) (A7.o.2 c);rcases Aq.1 O with e|O
    ·omega
    rcases At0.1 O with O|O
    ·exact h1 O
    have:=(BN c O).1;omega
   refine h.withZ (λc C=> ?_) ⟨CX _ Ae λM=>S.o.pt0.young.2.2.1 (A1.o _ M).1,λO=> ?_⟩ ?_
   ·rcases Aq.1 C with e|C
    ·omega
    rcases At0.1 C with C|C
    ·have:=A7.o.2 c (A1.o c C).1;omega
    exact(BN c C).2
   ·rcases Aq.1 O with e|O
    ·omega
    rcases At0.1 O with O|O
    ·exact S.o.nm (Aa _ (A1.o _ O).1)
    have:=(BN _ O).1;omega
   intro pp n c C q hq;obtain⟨⟨J,c',e0⟩,-⟩:=S.o.cell
   have j:w7.cell? ((World.heap w1).size+1,0)=R (A (R (b2,o2)) W.1.length cl):=
    (Am A2).cell _ _ (jC A8 DZ)
   rw[j]at C;simp only[Bt,Ci]at C;obtain⟨rfl,rfl,rfl⟩:=C;simp only[Value.ownBlock,Bt]at hq;subst hq;exact CX _ BC λM=>(A1.o _ M).2 rfl)
  clear CT BL hL CV BK;go_wp2
  go_loopw [45] (λx wr=>∃(k:Nat) (V:Q10) (G':List Nat),x=I Z k/\k<=L.length/\(V.1.length:Int)<=most/\Hd (V=(L.take k).foldl (Y6 bk X i) W)/\Hd (0<=V.2.1/\0<=V.2.2/\V.2.1+V.2.2<=4 * i+k)/\Hd (Qyk w (w1+1) P (wo.heap.size::(F1++FL)) w w7 wr (Q96 V) V G')) (λx _=>L.length-(By x).toNat);case atStart=>exact⟨0,W,G,rfl,Ak _,hW,rfl,qh (by have:=DW.o;omega),E1.o⟩
  obtain⟨k,V,G',rfl,hk,hV,A9,AA,a⟩:=hrel;by_cases AB:k<L.length
  ·have AR:=D ((L.take (k+1)).foldl (Y6 bk X i) W=Y6 bk X i V L[k]) (by rw[An AB,Dj,A9.o];rfl)
   have CY:=BM.o L[k] (As AB);have CZ:=CU.o.kept λc C=>(a.o.hz c (Aa _ (Af _ C))).2;obtain⟨bb,ob,rfl,hE⟩:=Rd.elem CZ.rd k AB;obtain⟨K,D0⟩:∃K:Nat,L[k]=(K:Int):=⟨L[k].toNat,by omega⟩;have AS:=qh (λh=>Quv (bk:=bk) (x:=X) (i:=i) (w:=W) AB h);rw[D0]at hE AR CY AS;obtain⟨g0,-⟩:=At.int hE;simp only[Ty.sz,Cc]at g0;have BO:=D (K<(pW (fP X)).length) (by omega);have BP:wr.heap[wo.heap.size]?=_:=(a.o.hz _ Ae).2.trans ((A2.o.block _ (by rw[AQ.o];omega)).trans BJ);have E2:=qh (Qx4 BP ((CR.o.kept λc C=>(a.o.hz c (Aa _ (Ag _ C))).2.trans ((A2.o.block c (by have:=A7.o.2 c (A1.o c C).1;have:=AQ.o;omega)).trans (A8.o.block c (A7.o.2 c (A1.o c C).1)))).rd));have FA:=qh BP;have E3:=qh (DQ.o.kb a.o.below);clear hE CY D0 BP CZ;go_upto_region 11 with((go_at_call 135;(with_reducible refine(Qsh p0 c0 bk E3 DR DS AK (fP X) K E2 BO CL).mono ?_);rintro e s ⟨u,z,z1,x1,x2,x3,y2,m2,z2,y3,m3,z3,x4,rfl,Y,E⟩;have D1:=qh Y;have D2:=qh E;clear Y E))
   refine Qp λAT BQ=> ?_;have D3:=D (AT,oC s.heap.size #[A u z z1,I Z x1,I Z x2,I Z x3,A y2 m2 z2,A y3 m3 z3,I Z x4] 46) (by rw[BQ];exact Bg s _);have D4:=D (s,AT) (by rw[BQ];go_grown);have E4:=D (wr,AT) (Q0 D2 D4);have AC:=qh (a.o.call E4);have FB:=AC.o.pt0.lt.1;obtain⟨⟨pl,cl,e0⟩,j,e2,-⟩:=AC.o.cell;have D5:=λq=>AC.o.pt0.free q;have hv:=AA.o;obtain⟨D6,AU⟩:∃c,(Yo bk (fP X) K).1=c:=⟨_,rfl⟩;have AV:=qh AU;rw[AU]at D1;rw[AU];clear BQ g0 AU;by_cases AW:D6=0
   ·subst AW
    obtain⟨J,AX⟩:∃c,(Yo bk (fP X) K).2=c:=⟨_,rfl⟩;have D7:=D (Q0y J) (by rw[<-AX];exact Qd4 AK CL BO);have E5:=D (Q88 bk p V) (by rw[A9.o];exact Q88.fold AK _ W A5 T AN.o.symm λy hy=>BM.o y (List.mem_of_mem_take hy));have D8:=qh (Qvm (w:=V) (q:=J) (λx hx=>(Q1c (E5.o.pool x hx).1).2.1) (Q1c D7).2.1);have AY:=qh AX;obtain⟨F9,BR,D9,BS⟩:=D1.o rfl;rw[AX]at BR;have DA:=qh (BR.kept λc C=>D4.o.block c (BS c C).2);have AD:=qh BS;have E6:=qh D9;have E7:V.2.1+1<=9223372036854775807:=by omega
    have E8:0<=V.2.1:=hv.1;obtain⟨E9,AE,AZ⟩:=AC.o.set1 (m:=V.2.1+1) (by unfold Qyn;omega);have AE:=qh AE;have AZ:=qh AZ;have BT:=qh a.o.pt0.lt;clear BR D9 BS AX e2;go_upto_region 14 with fail
    refine Qp λDB BU=> ?_;rw[<-BU]at AE;have DC:=D (Q1 (λc=>c=w1.heap.size+1) AT DB) (by rw[BU];exact Q1.setCell (p:=⟨w1+1,1,N⟩) (Q1.refl (λc=>c=w1.heap.size+1) _) rfl _);have B0:=D (wr.heap.size<=s/\w1.heap.size+1<wr.heap.size) (⟨D2.o.size,BT.o.1⟩);have DD:=D (DB,oC s.heap.size #[A u z z1,I Z x1,I Z x2,I Z x3,A y2 m2 z2,A y3 m3 z3,I Z x4] 46) (by rw[DC.o.block _ (Al.1 D3).1 (by have:=B0.o;omega)];exact D3.o);have AF:=qh (DA.o.frame DC λc C=>⟨DA.o.lt c C,by have:=(AD.o c C).1;have:=B0.o;omega⟩);have EA:=qh (At.ofBox (us:=[A u z z1,I Z x1,I Z x2,I Z x3,A y2 m2 z2,A y3 m3 z3,I Z x4]) DD AF.o.rd);have AG:=qh (Qu0 AF.o.rd.fits (Q52 D7));clear BU e0 j D5;go_upto_region 15 with((go_at_call 133;(with_reducible refine(Qtu _ _ J EA (by have:=AG.o;omega) (HT.o.on AE.o.below).here).mono ?_);rintro e FC ⟨rfl,E⟩;have BV:=qh E;have l:=qh (AE.o.call E);clear E))
    cases hany:V.1.any λy=>Qyo Qv (fP y) J with
    |true=>
     have B1:=D (decide (Q86 J∈Q96 V)=Bn) (by rw[<-D8.o];exact hany);have AH:=D (Y6 bk X i V (K:Int)=(V.1,V.2.1+1,V.2.2)) (Qdi (by rw[Bq,AV.o]) (by rw[Bq,AY.o];exact hany));clear hany;go_wp2_with((refine Q7u rfl rfl (Q86 J) rfl rfl l.o.seen (by unfold Bu;have:=AG.o;omega) B1 ?_))
     go_roundw;case rel=>exact⟨k+1,(V.1,V.2.1+1,V.2.2),_,by go_num,by omega,hV,(show Hd (_=_)from qh (by rw[AR.o,AH.o])),(show Hd _ from qh (by have:=AA.o;show 0<=V.2.1+1/\0<=V.2.2/\V.2.1+1+V.2.2<=4 * i+((k+1:Nat):Int);omega)),l.o⟩
     simp[By];omega
    |false=>
     have B1:=D (decide (Q86 J∈Q96 V)=Bm) (by rw[<-D8.o];exact hany);have AH:=D (Y6 bk X i V (K:Int)=(V.1++ [(J,(i:Int),(K:Int),fD X+1)],V.2.1+1,V.2.2)) (by rw[Q9l (by rw[Bq,AV.o]) (by rw[Bq,AY.o];exact hany),Bq,AY.o]);have EB:=D (V.1.length<(L.foldl (Y6 bk X i) W).1.length) (by have h:=AS.o (by rw[Bq,AV.o]) (by rw[<-A9.o,Bq,AY.o];exact hany);rw[<-A9.o]at h;exact h);obtain⟨⟨pl,cl,e0⟩,-⟩:=l.o.cell;simp only at e0;clear hany;by_cases AI:(V.1.length:Int)=most
     ·have EC:=D (A4=N) (by
       have h:=CI.o;have e:Q0l bk p W i=L.foldl (Y6 bk X i) W:=by rw[CW.o,AN.o];rfl
       rw[e,if_pos (by have:=EB.o;omega)]at h;exact h.symm)
      have M:=AI;have ED:V.1.length<=400:=by omega
      clear AI;go_wp2_with((refine Q7u rfl rfl (Q86 J) rfl rfl l.o.seen (by unfold Bu;have:=AG.o;omega) B1 ?_))
      go_ret2
      exact⟨l.o.below,.inl ⟨EC.o,rfl⟩⟩
     have M:((V.1.length:Int)==most)=Bm:=by simpa using AI
     have EE:=qh AI;have ED:V.1.length<=400:=by omega
     clear AI;go_upto_region 19 with(first|((refine Q7u rfl rfl (Q86 J) rfl rfl l.o.seen (by unfold Bu;have:=AG.o;omega) B1 ?_))|((refine Q78 rfl (.inl rfl) (Q86 J) rfl rfl l.o.seen (by unfold Bu Q96;simp;omega) (by unfold Bu;have:=AG.o;omega) ?_;intro d g M;have DE:=qh M;have A3:=qh (l.o.put (ks':=Q96 V++ [Q86 J]) (by simpa using g) M);clear g M)))
     have DF:=qh (Qf DD BV);have BW:=D (P.heap.size<wr) (a.o.seen.lt);have DG:=D (d,oC s.heap.size #[A u z z1,I Z x1,I Z x2,I Z x3,A y2 m2 z2,A y3 m3 z3,I Z x4] 46) (by rw[DE.o.block _ (Al.1 DF).1 (by have:=B0.o;have:=BW.o;omega)];exact DF.o);have DH:=qh ((AF.o.kept λc C=>BV.o.block c (AF.o.lt c C)).frame DE λc C=>⟨Ap (AF.o.lt c C) BV.o.size,by have:=(AD.o c C).1;have:=BW.o;omega⟩);have DI:d.heap[wo.heap.size]?=_:=(A3.o.hz _ Ae).2.trans ((A2.o.block _ (by rw[AQ.o];omega)).trans BJ);have g7:=Q6 DI (o:=7) (v:=I Z (fD X)) rfl;obtain⟨e0,j,e2,e3,e4,e5,e6⟩:=Q0t DG;obtain⟨⟨pl,cl,h0⟩,-⟩:=A3.o.cell;simp only at h0;have D5:=λq=>A3.o.pt0.free q;have FD:=A3.o.pt0.lt.1;have EF:0<=fD X/\fD X<=400:=by have:=A5.o.depth i T;rw[<-AN.o]at this;omega
     obtain⟨FE,FF⟩:=EF;have FG:=(Al.1 DG).1;have FH:=(A3.o.hz _ Ae).1;clear DI M;obtain⟨r,B2⟩:∃r,r=(d.alloc (.cells #[A u z z1,I Z x1,I Z x2,I Z x3,A y2 m2 z2,A y3 m3 z3,I Z x4,I Z (fD X+1),I Z i,I Z K] 90)).drew:=⟨_,rfl⟩;have BX:=D (Bp d d r) (by rw[B2];go_grown);have B3:=qh (A3.o.call BX);have BY:r.cell? ((World.heap w1).size+1,0)=R (A pl V.1.length cl):=jC BX h0;obtain⟨H,DJ,DK,A6,DL⟩:=B3.o.snoc BY;have DM:(Qxg V).1.length=V.1.length:=by simp[Qxg]
     have EG:=qh DJ;have EH:=qh DK;have DN:=qh A6;have EI:=qh DL;have EJ:=qh BY;have HY:=D (Qy6 (J,(i:Int),(K:Int),fD X+1)=(J,(fD X+1,((i:Int),(K:Int))))) (by unfold Qy6 fF;simp only;rw[if_neg (by omega)];rfl);have DO:=D (Ow Qak r [A u z z1,I Z x1,I Z x2,I Z x3,A y2 m2 z2,A y3 m3 z3,I Z x4,I Z (fD X+1),I Z i,I Z K] (Qy6 (J,(i:Int),(K:Int),fD X+1)) F9) (by rw[HY.o];exact⟨_,[_,_,_],F9,[],rfl,by simp,DH.o.kept λc C=>BX.o.block c (DH.o.lt c C),[_],[_,_],[],[],rfl,rfl,⟨rfl,(show Qyn (fD X+1)by unfold Qyn;omega),rfl⟩,[_],[_],[],[],rfl,rfl,⟨rfl,(show Qyn (i:Int)by unfold Qyn;omega),rfl⟩,⟨rfl,(show Qyn (K:Int)by unfold Qyn;have:=BO.o;have:=BG.o;omega),rfl⟩⟩);have EK:=D (Qy2 r d 0 [A u z z1,I Z x1,I Z x2,I Z x3,A y2 m2 z2,A y3 m3 z3,I Z x4,I Z (fD X+1),I Z i,I Z K]) (λjj EL=>by rw[B2];exact Q6 (Bg d _) (by rw[Cg,List.getElem?_toArray,Ad EL]));have EM:=D (∀b∈F9,b∉H) (λb E hh=>by have h1:=(AD.o b E).1;have h2:=BT.o.2 b (AZ.o b (DN.o b hh));omega);have EN:=D (∀b∈F9,b∉P.heap.size::(w1.heap.size+1)::E9/\w<=b) (λb E=>⟨λhm=>by
      have h1:=(AD.o b E).1;have h2:=BW.o;have h3:=B0.o;rcases Aq.1 hm with e|hm
      ·omega
      rcases Aq.1 hm with e|hm
      ·omega
      have:=BT.o.2 b (AZ.o b hm);omega,Au a.o.size.1 (AD.o b E).1⟩)
     have DP:=D (w1.heap.size+1<r.heap.size/\w1.heap.size+1∉H) (⟨B3.o.pt0.lt.1,λhh=>B3.o.pt0.young.2.2.1 (DN.o _ hh)⟩);have FI:=D (r.heap.size=d+1) (by rw[B2];simp);clear DJ DK A6 DL BY;subst B2;have FJ:IntKind.i64.wrap (fD X+1)=fD X+1:=by simp only[IntKind.wrap_i64];omega
     go_region_law((refine Q38 _ Qrl (.tmp 89) (.tmp 97) rfl rfl (xs:=(Qxg V).1) (y:=Qy6 (J,(i:Int),(K:Int),fD X+1)) d 1 rfl rfl EG EH DO E6 EM EK (Q84 DO) (by rw[DM];omega) ?_;intro p9 c9 BZ EO ho Y g M C0;rw[DM]at ho C0;have EP:=qh (EI.o _ p9 c9 BZ EO F9 ho Y g M C0 EN);have C1:=M.block _ DP.o.1 (λh=>DP.o.2 h.1);have FK:BZ.cell? ((World.heap w1).size+1,0)=R (A pl V.1.length cl):=(by unfold World.cell?;rw[C1];exact EJ.o);have FM:BZ.frozen? ((World.heap w1).size+1,0)=Bm:=(by unfold World.frozen?;rw[C1];exact B3.o.pt0.free 0);clear ho Y g M C0 C1))
     all_goals
      go_wp2
      go_roundw;case rel=>exact⟨k+1,(V.1++ [(J,(i:Int),(K:Int),fD X+1)],V.2.1+1,V.2.2),_,by go_num,by omega,(by have:=EE.o;simp only[List.length_append,Dg];omega),(show Hd (_=_)from qh (by rw[AR.o,AH.o])),(show Hd _ from qh (by have:=AA.o;show 0<=V.2.1+1/\0<=V.2.2/\V.2.1+1+V.2.2<=4 * i+((k+1:Nat):Int);omega)),(show Qyk _ _ _ _ _ _ _ (Q96 (V.1++ [(J,(i:Int),(K:Int),fD X+1)],V.2.1+1,V.2.2)) _ _ by
       have e:Q96 (V.1++ [(J,(i:Int),(K:Int),fD X+1)],V.2.1+1,V.2.2)=Q96 V++ [Q86 J]:=by unfold Q96;simp[fP]
       rw[e];exact EP.o.choose_spec.1)⟩
      simp[By];omega
   have AH:=D (Y6 bk X i V (K:Int)=(V.1,V.2.1,V.2.2+1)) (Qcl (by rw[Bq,AV.o];exact AW));have FN:(D6 !=0)=Bn:=by simpa using AW
   have EQ:=qh (AC.o.set2 (m:=V.2.2+1) (by unfold Qyn;omega));have E7:V.2.2+1<=9223372036854775807:=by omega
   have E8:0<=V.2.2:=hv.2.1;clear AW e0 j;go_wp2
   go_roundw;case rel=>exact⟨k+1,(V.1,V.2.1,V.2.2+1),_,by go_num,by omega,hV,(show Hd (_=_)from qh (by rw[AR.o,AH.o])),(show Hd _ from qh (by have:=AA.o;show 0<=V.2.1/\0<=V.2.2+1/\V.2.1+(V.2.2+1)<=4 * i+((k+1:Nat):Int);omega)),EQ.o.choose_spec.1⟩
   simp[By];omega
  have B4:V=Q0l bk p W i:=by rw[A9.o,Ao (Nat.le_of_not_lt AB),CW.o,AN.o];rfl
  have C2:=Qaj A5 T;rw[<-B4]at C2;have ER:=D (Q4m bk p most f (i+1) V=A4) (by have h:=CI.o;rw[<-B4,if_neg (by omega)]at h;exact h);have ES:=D (Q88 bk p V) (by rw[B4];exact A5.o.expand AK T);have ET:=qh C2;have AS:=D (f+(i+1)=most.toNat+1) (by have:=CH.o;omega);clear B4 C2;go_wp2
  go_roundw;case rel=>exact⟨i+1,f,V,G',by go_num,(by have:=ET.o;omega),hV,ER.o,AS.o,ES.o,qh (by have:=AA.o;omega),a.o.noZ⟩
  simp[By];omega
 have EU:=qh (CG.o▸(Qin (bk:=bk) (p:=p) (most:=most) (f:=f) (Nat.le_of_not_lt T)));have FO:=BE.1;clear BE;go_wp2_with fail
 go_ret2
 exact⟨S.o.below,.inr ⟨W,_,G,EU.o,rfl,S.o.pt0⟩⟩
def Qsu(B:Nat)(p:Ye)(w:Bh)(e:Ending)(w':Bh):Prop:=∃bx G,e=.returned (.pointer (R ⟨bx,0,N⟩))/\Q1b B bx 0 Q4g w' (Qym (Jp p)) G/\Bp B w w'
theorem Q6e{t w vs x F}(h:Ow t w vs x F)(o):Ow t (w.alloc o) vs x F:=h.kept λc B=>Az _ _ _ (h.lt c B)
def Qer{w:Bh}{n}(h:Qyn n)(T):Ow (.slice .int) (w.alloc (.cells #[n] T)) [A (R (w,0)) 1 1] [n] [w.heap.size]:=Qqn (e:=.int) (vs:=[n]) (Bg w _) ⟨rfl,h,rfl⟩
theorem Qxo(w:Bh)(o):(w.alloc o).heap.size=w+1:=by simp
def Qsf{w}(b o)(p:Ye)(h:At Qv w b o p)(G:Q0y p):Bv prog 60 #[(b,o)] w (Qsu w p w):=by
 have S:=qh h;have L:=qh (Qf9 G);have T:=qh (Q52 G).dsz;clear h G;go_enter func60,ntmps60;go_wp2_with((go_at_call 92;(with_reducible refine(Qe9 b o p S T).mono ?_);rintro e w1 ⟨us,rfl,H,C⟩;obtain⟨j,px,cx,rfl,-⟩:=H.poolShape L.o.1 L.o.2;have U:=qh H;have M:=qh C;clear H C))
 go_ret;have V:=M.o.size;obtain⟨F,X,Y,J⟩:=U.o;have q1:=Q6e (Q6e (Q6e (Qqn (Bg w1 (.cells _ 46)) (Q6e X _)) (.cells #[I Z (-1)] 2)) (.cells #[I Z (-1)] 2)) (.cells #[()] 2);have O:Qyn (-1):=by unfold Qyn;omega
 have K:Qyn 0:=by unfold Qyn;omega
 have d:=λW=>Q6e (Q6e (Qer (w:=W) O 2) (.cells #[I Z (-1)] 2)) (.cells #[()] 2);have f:=λW=>Q6e (Qer (w:=W) O 2) (.cells #[()] 2);have g:=λW=>Qer (w:=W) K 2
 have P:=Q1b.box (B:=w) (t:=Q4g) (x:=Qym (Jp p)) 76 (F:=(w1.heap.size::F)++([_]++([_]++([_]++([]++ [])))))
  ⟨[_],_,_,_,rfl,rfl,q1,[_],_,_,_,rfl,rfl,d _,[_],_,_,_,rfl,rfl,f _,[_],_,_,_,rfl,rfl,g _,[_],[_],[],[],rfl,rfl,⟨rfl,K,rfl⟩,⟨rfl,K,rfl⟩⟩ (by
   simp only[Cl,Bw,Bs,Qxo];refine Ar.2 ⟨λh=> ?_,Ba.2 ⟨Y,by simp,λa i b C e=> ?_⟩⟩
   ·rcases At0.1 h with h|h
    ·have:=(J _ h).2;omega
    simp only[List.mem_cons,Cs,or_false]at h;omega
   ·have:=(J a i).2
    simp only[List.mem_cons,Cs,or_false]at C;omega) (λc E=>by
   simp only[Cl,Bw,Bs,Qxo]at E;rcases Aq.1 E with e|E
   ·omega
   rcases At0.1 E with h|h
   ·exact(J c h).1
   simp only[List.mem_cons,Cs,or_false]at h;omega) (by simp;omega)
 simp only[Qxo,Bw,Bs]at P;exact⟨_,_,rfl,P,((((M.o.alloc V _).alloc (by simp;omega) _).alloc (by simp;omega) _).alloc (by simp;omega) _).alloc (by simp;omega) _⟩
def Qvb:Qya prog 55 46 Qv:=Qya.mk' underlying55 (by kernel_rfl)
def Qqu:Qya prog 34 2 .int:=Qya.mk' underlying34 (by kernel_rfl)
def Qui(B bx:Nat)(w0:Bh)(V:Q10)(e:Ending)(w':Bh):Prop:=e=.returned (.tuple #[])/\∃G',Qy4 B bx [] w0 w0 w' (Qym V) G'
theorem Qo5(E w p0 c0)(bk:List Qy0)(AZ:Rd (.slice Jl) E [A p0 bk c0] bk)(CL:bk<=Bu)(BI:∀n∈bk,Qbs n)(BJ:∀n∈bk,Yd n=Bn)(J p W G)(hS:Qy4 E J [] E E w (Qym W) G)(AM:Q88 bk p W)(i:Nat)(r:i<W.1)(DK:W.1.length<=400)(BK:0<=W.2.1/\0<=W.2.2/\W.2.1+W.2.2<=4 * i):
  Bv prog 61 #[A p0 bk c0,(J,0),I Z i] w (Qui E J E (Q0l bk p W i)):=by
 have HS:=qh hS;have DL:=qh AM;have CM:=qh AZ;have CN:=qh CL;have CO:=qh BI;have BL:=qh BJ;have CP:=qh BK;obtain⟨X,hX⟩:∃X,X=Q04 p W i:=⟨_,rfl⟩;have BM:X∈W.1:=hX▸Q8x r;obtain⟨AN,-,-⟩:=AM.pool X BM;have BN:=D (Q0l bk p W i=(Q2x (fP X)).foldl (Y6 bk X i) W) (by rw[hX];rfl);have BO:=D (∀V:Q10,V.1.take W.1.length=W.1->∃h:i<(Qym V).1.length,(Qym V).1[i]=fP X) (λV hV=>by
  have hl:W.1.length<=V.1:=by have:=congrArg Ca hV;rw[Cf]at this;omega
  refine⟨by simp only[Qym,De];omega, ?_⟩;have e:V.1[i]?=W.1[i]?:=by rw[<-hV,Cm,if_pos r]
  simp only[Qym,List.getElem_map];have e1:V.1[i]'(by omega)=W.1[i]:=by rw[Ad (by omega),Ad r]at e;exact Option.some.inj e
  rw[e1,hX];unfold Q04;rw[Ab,Ad r];rfl)
 have CQ:=D (∀V:Q10,V.1.take W.1.length=W.1->∃h:i<(Qym V).2.2.2.1.length,(Qym V).2.2.2.1[i]=fD X) (λV hV=>by
  have hl:W.1.length<=V.1:=by have:=congrArg Ca hV;rw[Cf]at this;omega
  refine⟨by simp only[Qym,De];omega, ?_⟩;have e:V.1[i]?=W.1[i]?:=by rw[<-hV,Cm,if_pos r]
  simp only[Qym,List.getElem_map];have e1:V.1[i]'(by omega)=W.1[i]:=by rw[Ad (by omega),Ad r]at e;exact Option.some.inj e
  rw[e1,hX];unfold Q04;rw[Ab,Ad r];rfl)
 have BP:=D (0<=fD X/\fD X<=400) (by have h:=AM.depth i r;rw[<-hX]at h;omega);have DM:=qh hX;have BQ:=qh AN;have B0:=D ((pW (fP X)).length<=4) ((Q1c AN).1.2);have CR:=qh (Q52 AN).dsz;have DN:=hS.pt0.lt.1;obtain⟨AF,AG⟩:=BO.o W (List.take_length);obtain⟨H0,f0⟩:=Qyj.fst hS.pt0;obtain⟨b2,o2,DO,H,d0,f2⟩:=Qyj.elem f0.hold i AF;have A9:=f2.hold;rw[AG]at A9;have HA:=D (At Qv w b2 (o2+i * 7) (fP X)) (let ⟨us,h1,h2,h3⟩:=A9.row;⟨us,h1,h2,h3.rd⟩);have AH:(Qym W).1.length=W.1:=by simp[Qym]
 rw[AH]at d0;clear hS AM AZ BI BJ hX BM AN AG f0 f2 A9 BK AF AH;go_enter func61,ntmps61;go_upto_region 1 with((go_at_call 91;(with_reducible refine(Qvc (fP X) HA (by have:=B0.o;omega)).mono ?_);rintro e w7 ⟨v,rfl,K,O⟩;have B1:=qh K;have BR:=qh O;clear K O;obtain⟨DP,DQ,rfl,-,-⟩:=B1.o.form))
 obtain⟨FL,BS,-,AO⟩:=B1.o.ow rfl;have B2:=qh BS;have BT:=D (∀x∈Q2x (fP X),0<=x/\x<(pW (fP X)).length) (λx hx=>Qiw hx);have BU:=Qeu (fP X);obtain⟨L,hL⟩:∃L:List Int,L=Q2x (fP X):=⟨_,rfl⟩;rw[<-hL]at B2 BT BU BN;rw[<-hL];have DR:L.length<=4:=by have:=B0.o;omega
 have CS:=D (Qy4 E J FL E w7 w7 (Qym W) G) (by
  have DS:=BR.o.size;have h:=HS.o.call BR;have CT:=HS.o.pt0.lt;have CU:W.1≠ []:=λe=>by rw[e]at r;simp at r
  refine h.withZ (λc C=>(AO c C).2.lt) (λhm=>by have:=(AO _ hm).1;omega) (λc C hm=>by have:=CT.2 c C;have:=(AO _ hm).1;omega) ?_ ?_ ?_ ?_<;>simpa[Qym]using CU)
 clear BS AO hL BU B1 HA d0;go_wp2
 go_loopw [7] (λx wr=>∃(k:Nat) (V:Q10) (G':List Nat),x=I Z k/\k<=L/\Hd (V=(L.take k).foldl (Y6 bk X i) W)/\Hd (0<=V.2.1/\0<=V.2.2/\V.2.1+V.2.2<=4 * i+k)/\Hd (Qy4 E J FL E w7 wr (Qym V) G')) (λx _=>L.length-(By x).toNat);case atStart=>exact⟨0,W,G,rfl,Ak _,rfl,qh (by have:=CP.o;omega),CS.o⟩
 obtain⟨k,V,G',rfl,hk,B3,AP,A1⟩:=hrel;by_cases AI:k<L
 ·have AQ:=D ((L.take (k+1)).foldl (Y6 bk X i) W=Y6 bk X i V L[k]) (by rw[An AI,Dj,B3.o];rfl)
  have BV:=BT.o L[k] (As AI);obtain⟨-,B4,AR⟩:=Q6z bk X i (L.take k) W;rw[<-B3.o]at B4 AR;rw[Cf]at B4;have AJ:=D (V.1.length<=404) (by omega);obtain⟨AF,AG⟩:=BO.o V AR;have BW:=B2.o.kept λc C=>(A1.o.hz c C).2;obtain⟨bb,ob,rfl,P⟩:=Rd.elem BW.rd k AI;obtain⟨B,B5⟩:∃B:Nat,L[k]=(B:Int):=⟨L[k].toNat,by omega⟩;rw[B5]at P AQ BV;obtain⟨g0,-⟩:=At.int P;simp only[Ty.sz,Cc]at g0;have CV:=D (∀V',Qy4 E J FL E w7 V' (Qym V) G'->True) (λ_ _=>trivial);have B6:=D (B<(pW (fP X))) (by omega);have CW:=D (∀V':Bh,(∀c∈FL,V'.heap[c]?=w7.heap[c]?)->V'.cell? (bb,ob+k)=R (I Z B)) (λV' hV=>by obtain⟨_,_,ee,hh⟩:=Rd.elem (B2.o.kept hV).rd k AI;simp only[Bt,Addr.mk.injEq,and_true]at ee;obtain⟨rfl,rfl⟩:=ee;rw[B5]at hh;obtain⟨q0,-⟩:=At.int hh;simpa only[Ty.sz,Cc]using q0);have CX:=qh (CQ.o V AR);obtain⟨H0,f0⟩:=Qyj.fst A1.o.pt0;obtain⟨b3,o3,CY,H,d0,f2⟩:=Qyj.elem f0.hold i AF;have A9:=f2.hold;rw[AG]at A9;have CZ:=D (At Qv wr b3 (o3+i * 7) (fP X)) (let ⟨us,h1,h2,h3⟩:=A9.row;⟨us,h1,h2,h3.rd⟩);have AH:(Qym V).1.length=V.1:=by simp[Qym]
  rw[AH]at d0 AF;have D0:=qh (CM.o.kb A1.o.below);have AZ:=A1.o.pt0.lt.1;have BX:=qh A1.o.pt0.lt;clear P BV B5 BW AG f0 f2 A9 AH B4 AR CV;go_upto_region 4 with fail
  go_cut [8,9] (λa d wx=>∃(bn:Nat) (s:Option Addr) (t u:Nat) (z x2 x3:Int) (y2:Option Addr) (m2 z2:Nat) (y3:Option Addr) (m3 z3:Nat) (x4:Int),a=.pointer (R (bn,0))/\d=I Z (Yo bk (fP X) B).1/\
   Hd (wx,oC bn #[A s t u,I Z z,I Z x2,I Z x3,A y2 m2 z2,A y3 m3 z3,I Z x4] 46)/\
   Hd (∃F,Ow Qv wx [A s t u,I Z z,I Z x2,I Z x3,A y2 m2 z2,A y3 m3 z3,I Z x4] (Yo bk (fP X) B).2 F/\F.Nodup/\∀c∈F,wr<=c/\c<wx.heap.size)/\Hd (wr<=bn)/\Hd (wr,wx))
  case first=>
   go_region_held3(λV'=>(V',J,0,A (R (b3,o3)) V.1 CY)/\(V',bb,ob+k,I Z B))
    (((refine Qum (w:=wr) ?_ d0 g0);first|with_reducible exact A0.o|with_reducible exact A0.o.alloc A0.o.size _|exact(((((((A0.o.setCell (Aj _) _).setCell (Aj _) _).setCell (Aj _) _).setCell (Aj _) _).setCell (Aj _) _).setCell (Aj _) _).setCell (Aj _) _)|go_grown))
    ((go_at_call 108;(refine(Qt2 p0 c0 bk (D0.o.kb (by go_grown)) CN CO BL (fP X) B (CZ.o.kb (by go_grown)) B6 BQ CR).mono ?_);rintro e w9 ⟨vs,rfl,S,O⟩;obtain⟨s,t,u,z,x2,x3,y2,m2,z2,y3,m3,z3,x4,rfl⟩:=Qb1 (let ⟨_,o,_⟩:=S;o.rd);have BY:=qh S;have A0:=D (wr,w9) (Q0 (by go_grown) O);try(have BZ:=D (w9.heap[wr.heap.size]?=R (Jf (A N 0 0) 0 0 0 (A N 0 0) (A N 0 0) 0)) ((O.block _ (by simp)).trans (Bg wr _));obtain⟨⟨t0,t1,t2,t3,t4,t5,t6⟩,tf⟩:=Q2z BZ);have DT:=A0.o.size;clear S O))
   all_goals(go_wp2;go_meet)
   ·exact⟨_,_,_,_,_,_,_,_,_,_,_,_,_,_,rfl,rfl,Bg w9 _,(by obtain⟨F,o,hF,hG⟩:=BY.o;exact⟨F,Q6e o _,hF,λc C=>⟨(hG c C).1,by simp only[Qxo];exact Nat.lt_succ_of_lt (hG c C).2⟩⟩),A0.o.size,A0.o.alloc A0.o.size _⟩
   have AA:=Zx (X:=λc=>c=wr.heap.size) (g:=wr) rfl [A s t u,I Z z,I Z x2,I Z x3,A y2 m2 z2,A y3 m3 z3,I Z x4] 0 w9;have C0:=Q68 BZ (A s t u) (A y2 m2 z2) (A y3 m3 z3) z x2 x3 x4;simp only[Yu,Cg,Bj]at AA C0;have DU:=AA.size;have D1:=A0.o.size;obtain⟨F,oF,nF,bF⟩:=BY.o;simp at bF;exact⟨wr,_,_,_,_,_,_,_,_,_,_,_,_,_,rfl,rfl,C0,⟨F,oF.frame AA (λb O=>⟨(bF b O).2,by have:=(bF b O).1;omega⟩),nF,λb O=>⟨by have:=(bF b O).1;omega,by have:=(bF b O).2;omega⟩⟩,Aj _,A0.o.trans (AA.below D1 (λi hi=>by omega))⟩
  case rest=>
  rename Bh=>W10
  obtain⟨bn,s,t,u,z,x2,x3,y2,m2,z2,y3,m3,z3,x4,rfl,rfl,C1,D2,D3,D4⟩:=hcut;have AE:=qh (A1.o.call D4);have AA:=λq=>AE.o.pt0.free q;have DV:=AE.o.pt0.lt.1;have hv:=AP.o;obtain⟨C2,B7⟩:∃c,(Yo bk (fP X) B).1=c:=⟨_,rfl⟩;have B8:=qh B7;rw[B7];clear g0 B7 d0;by_cases AS:C2=0
  ·subst AS
   obtain⟨M,AT⟩:∃c,(Yo bk (fP X) B).2=c:=⟨_,rfl⟩;have DW:=D (Q0y M) (by rw[<-AT];exact Qd4 BL BQ B6);obtain⟨F9,B9,C3,C4⟩:=D2.o;rw[AT]at B9;have BA:=qh AT;have C5:=qh B9;have BB:=qh C4;have D5:=qh C3;have D6:V.2.1+1<=9223372036854775807:=by omega
   have D7:0<=V.2.1:=hv.1;obtain⟨H5,f5⟩:=Qyj.at4 AE.o.pt0;have e5:W10.cell? (J,4)=R (I Z V.2.1):=f5.hold.int.1;obtain⟨C6,A2,BC⟩:=AE.o.setI (m:=V.2.1+1) f5 (by unfold Qyn;omega);have A2:=D (Qy4 E J FL E w7 (W10.setCell (J,4) (I Z (V.2.1+1))) (Qym (V.1,V.2.1+1,V.2.2)) C6) (A2);have BC:=qh BC;clear B9 C3 C4 AT f5;go_upto_region 8 with fail
   refine Qp λAB BD=> ?_;rw[<-BD]at A2;have C7:=D (Q1 (λc=>c=J) W10 AB) (by rw[BD];exact Q1.setCell (p:=⟨J,4,N⟩) (Q1.refl (λc=>c=J) _) rfl _);have C8:=D (AB,oC bn #[A s t u,I Z z,I Z x2,I Z x3,A y2 m2 z2,A y3 m3 z3,I Z x4] 46) (by rw[C7.o.block _ (Al.1 C1).1 (by have:=D3.o;omega)];exact C1.o);have BE:=qh (C5.o.frame C7 λc C=>⟨C5.o.lt c C,by have:=(BB.o c C).1;omega⟩);have D8:=qh (At.ofBox (us:=[A s t u,I Z z,I Z x2,I Z x3,A y2 m2 z2,A y3 m3 z3,I Z x4]) C8 BE.o.rd);obtain⟨H0,f0⟩:=Qyj.fst A2.o.pt0;obtain⟨pl,cl,e0,C9⟩:=f0.hold.slice;have D9:=D (Rd (.slice Qv) AB [A pl (V.1.map fP) cl] (V.1.map fP)) (C9.rd);replace e0:AB.cell? (J,0)=R (A pl V.1 cl):=by rw[e0];simp[Qym]
   have DA:=D ((V.1.map fP)<=Bu) (by have:=AJ.o;rw[De];unfold Bu;omega);have CA:=D (Bv prog 28 #[A pl V.1 cl,(bn,0)] AB λe w'=>e=.returned (I Z (Q5z (λx=>Qyo Qv x M) (V.1.map fP)))/\Q0z AB w') (by have h:=Qpq AB pl cl (V.1.map fP) bn 0 M D9 DA D8;rw[De]at h;exact h);have AA:=λq=>A2.o.pt0.free q;have DB:=A2.o.pt0.lt.1;have CB:=D (decide (0<=Q5z (λx=>Qyo Qv x M) (V.1.map fP))=V.1.any λy=>Qyo Qv (fP y) M) ((Qcm _ _).trans (by rw[List.any_map];rfl));clear BD f0 C9 e5;cases hany:V.1.any λy=>Qyo Qv (fP y) M with
   |true=>
    have CC:0<=Q5z (λx=>Qyo Qv x M) (V.1.map fP):=by have:=CB.o;rw[hany]at this;exact of_decide_eq_true this
    have AK:=D (Y6 bk X i V (B:Int)=(V.1,V.2.1+1,V.2.2)) (Qdi (by rw[Bq,B8.o]) (by rw[Bq,BA.o];exact hany));clear hany;go_wp2_with((go_at_call 28;(with_reducible refine CA.o.mono ?_);rintro e AU ⟨rfl,hd⟩;have AV:=qh (A2.o.call hd.below);clear hd))
    go_roundw;case rel=>exact⟨k+1,(V.1,V.2.1+1,V.2.2),_,by go_num,by omega,(show Hd (_=_)from qh (by rw[AQ.o,AK.o])),(show Hd _ from qh (by have:=AP.o;show 0<=V.2.1+1/\0<=V.2.2/\V.2.1+1+V.2.2<=4 * i+((k+1:Nat):Int);omega)),AV.o⟩
    simp[By];omega
   |false=>
    have CC:Q5z (λx=>Qyo Qv x M) (V.1.map fP)<0:=by have:=CB.o;rw[hany]at this;have:=of_decide_eq_false this;omega
    have AK:=D (Y6 bk X i V (B:Int)=(V.1++ [(M,(i:Int),(B:Int),fD X+1)],V.2.1+1,V.2.2)) (by rw[Q9l (by rw[Bq,B8.o]) (by rw[Bq,BA.o];exact hany),Bq,BA.o]);clear hany;go_upto_region 9 with((go_at_call 28;(with_reducible refine CA.o.mono ?_);rintro e AU ⟨rfl,hd⟩;have AV:=qh (A2.o.call hd.below);have CD:=qh (Qf C8 hd.below);have DC:=qh (BE.o.kept λc C=>hd.below.block c (BE.o.lt c C));clear hd))
    have DD:=D (∀b∈F9,b∉J::C6/\E<=b) (λb O=>⟨λhm=>by
     have h1:=(BB.o b O).1;rcases Aq.1 hm with e|hm
     ·have:=BX.o.1;omega
     have:=BX.o.2 b (BC.o b hm);omega,Au A1.o.size (BB.o b O).1⟩)
    have CE:Qyn (i:Int):=by unfold Qyn;omega
    have CF:Qyn (B:Int):=by unfold Qyn;have:=B6.o;have:=B0.o;omega
    have DE:=qh CE;have DF:=qh CF;have lP:(V.1.map fP).length=V.1:=De fP;have lF:(V.1.map fF).length=V.1:=De fF;have lB:(V.1.map fB).length=V.1:=De fB;have lD:(V.1.map fD).length=V.1:=De fD;have Y:=qh (And.intro lP (And.intro lF (And.intro lB lD)));clear e0 AA DB CC CE CF lP lF lB lD;go_cut [] (λwx=>∃G,Qy4 E J FL E w7 wx (V.1.map fP++ [M],(V.1.map fF,(V.1.map fB,(V.1.map fD,(V.2.1+1,V.2.2))))) G)
    case first=>
     obtain⟨e0,e1,e2,e3,e4,e5,e6⟩:=Q0t CD;obtain⟨pa,ca,H,C,A3,A4,f,A5,A6,A7⟩:=AV.o.app (W:=(AU.alloc (.cells #[A s t u,I Z z,I Z x2,I Z x3,A y2 m2 z2,A y3 m3 z3,I Z x4] 46)).drew) (q:=0) (λ_ h=>Qyj.fst h) (by decide) Y.o.1 (vs:=[A s t u,I Z z,I Z x2,I Z x3,A y2 m2 z2,A y3 m3 z3,I Z x4]) (T:=46) (y:=M) (Gy:=F9) (by go_grown) (Bg AU _) DC DD;have DX:=AV.o.pt0.lt.1;have DY:=Zl CD;go_region_law((refine Q38 _ Qvb (.tmp 64) (.tmp 66) rfl rfl (xs:=V.1.map fP) (y:=M) AU 1 rfl rfl A3 A4 f.o D5 A5 A6 (Q84 f.o) (by have:=AJ.o;rw[Y.o.1];omega) ?_;intro p9 c9 AC AD K S j l U;rw[Y.o.1]at K U;obtain⟨AW,AX,AY,P⟩:=A7.o p9 c9 AC AD K S j l U;have A8:=qh P;clear K S j l U P))
     all_goals(go_wp2;go_meet;exact⟨_,A8.o⟩)
    case rest=>
    rename Bh=>BF
    obtain⟨DZ,hcut⟩:=hcut;have CG:=qh hcut;clear hcut;obtain⟨pa,ca,H,C,A3,A4,f,A5,A6,A7⟩:=CG.o.app (W:=BF.alloc (.cells #[I Z i] 2)) (q:=1) (λ_ h=>Qyj.at1 h) (by decide) Y.o.2.1 (vs:=[I Z i]) (T:=2) (y:=(i:Int)) (Gy:=[]) (by go_grown) (Bg BF _) ⟨rfl,DE.o,rfl⟩ (λ_ h=>by cases h);have DG:=CG.o.pt0.lt.1;go_upto_region 11 with((refine Qd3 _ Qqu (.tmp 74) (.tmp 76) rfl rfl (xs:=V.1.map fF) (y:=(i:Int)) BF 1 rfl rfl A3 A4 f.o Gq A5 A6 (Q84 f.o) (by have:=AJ.o;rw[Y.o.2.1];omega) ?_;intro p9 c9 AC AD K S j l U;rw[Y.o.2.1]at K U;obtain⟨AW,AX,AY,P⟩:=A7.o p9 c9 AC AD K S j l U;have A8:=qh P;clear K S j l U P))
    refine Qp λAL CH=> ?_;have BG:=D (Qy4 E J FL E w7 AL (V.1.map fP++ [M],(V.1.map fF++ [(i:Int)],(V.1.map fB,(V.1.map fD,(V.2.1+1,V.2.2))))) AY) (by rw[CH];exact A8.o);clear CH A8 A7 A3 A4 f A5 A6 C AW AX DG;go_cut [] (λwx=>∃G,Qy4 E J FL E w7 wx (V.1.map fP++ [M],(V.1.map fF++ [(i:Int)],(V.1.map fB++ [(B:Int)],(V.1.map fD,(V.2.1+1,V.2.2))))) G)
    case first=>
     have hk:=CW.o AL λc C=>(BG.o.hz c C).2;obtain⟨pa,ca,H,C,A3,A4,f,A5,A6,A7⟩:=BG.o.app (W:=(AL.alloc (.cells #[I Z B] 2)).drew) (q:=2) (λ_ h=>Qyj.at2 h) (by decide) Y.o.2.2.1 (vs:=[I Z B]) (T:=2) (y:=(B:Int)) (Gy:=[]) (by go_grown) (Bg AL _) ⟨rfl,DF.o,rfl⟩ (λ_ h=>by cases h);have E0:=BG.o.pt0.lt.1;go_region_law((refine Q38 _ Qqu (.tmp 84) (.tmp 89) rfl rfl (xs:=V.1.map fB) (y:=(B:Int)) AL 1 rfl rfl A3 A4 f.o Gq A5 A6 (Q84 f.o) (by have:=AJ.o;rw[Y.o.2.2.1];omega) ?_;intro p9 c9 AC AD K S j l U;rw[Y.o.2.2.1]at K U;obtain⟨AW,AX,AY,P⟩:=A7.o p9 c9 AC AD K S j l U;have A8:=qh P;clear K S j l U P))
     all_goals(go_wp2;go_meet;exact⟨_,A8.o⟩)
    case rest=>
    rename Bh=>W17
    obtain⟨E1,hcut⟩:=hcut;have BH:=qh hcut;clear hcut;obtain⟨CI,CJ⟩:=CX.o;obtain⟨_,f3⟩:=Qyj.at3 BH.o.pt0;obtain⟨b4,o4,DH,H4,d4,f4⟩:=Qyj.elem f3.hold i CI;have d5:W17.cell? (b4,o4+i)=R (I Z (fD X)):=by have h:=f4.hold.int.1;simp only[Ty.sz,Cc]at h;rw[<-CJ];exact h
    replace d4:W17.cell? (J,3)=R (A (R (b4,o4)) (V.1.map fD) DH):=d4;obtain⟨pa,ca,H,C,A3,A4,f,A5,A6,A7⟩:=BH.o.app (W:=(W17.alloc (.cells #[I Z (fD X+1)] 2)).drew) (q:=3) (λ_ h=>Qyj.at3 h) (by decide) Y.o.2.2.2 (vs:=[I Z (fD X+1)]) (T:=2) (y:=(fD X+1)) (Gy:=[]) (by go_grown) (Bg W17 _) ⟨rfl,by have:=BP.o;unfold Qyn;omega,rfl⟩ (λ_ h=>by cases h);replace C:W17.cell? (J,3)=R (A pa V.1 ca):=C;rw[Y.o.2.2.2,C]at d4;simp only[Bt,Ci,true_and]at d4;obtain⟨rfl,rfl⟩:=d4;clear f3 f4 CJ CI;have E2:=BH.o.pt0.lt.1;obtain⟨E3,E4⟩:=BP.o;have E5:IntKind.i64.wrap (fD X+1)=fD X+1:=by simp only[IntKind.wrap_i64];omega
    go_upto_region 12 with fail
    go_region_law((refine Q38 _ Qqu (.tmp 97) (.tmp 106) rfl rfl (xs:=V.1.map fD) (y:=(fD X+1)) W17 1 rfl rfl A3 A4 f.o Gq A5 A6 (Q84 f.o) (by have:=AJ.o;rw[Y.o.2.2.2];omega) ?_;intro p9 c9 AC AD K S j l U;rw[Y.o.2.2.2]at K U;obtain⟨AW,AX,AY,P⟩:=A7.o p9 c9 AC AD K S j l U;have A8:=qh P;clear K S j l U P))
    all_goals
     go_wp2
     go_roundw;exact⟨k+1,(V.1++ [(M,(i:Int),(B:Int),fD X+1)],V.2.1+1,V.2.2),_,by go_num,by omega,(show Hd (_=_)from qh (by rw[AQ.o,AK.o])),(show Hd _ from qh (by have:=AP.o;show 0<=V.2.1+1/\0<=V.2.2/\V.2.1+1+V.2.2<=4 * i+((k+1:Nat):Int);omega)),(show Qy4 _ _ _ _ _ _ (Qym (V.1++ [(M,(i:Int),(B:Int),fD X+1)],V.2.1+1,V.2.2)) _ by
  have e:Qym (V.1++ [(M,(i:Int),(B:Int),fD X+1)],V.2.1+1,V.2.2)=(V.1.map fP++ [M],(V.1.map fF++ [(i:Int)],(V.1.map fB++ [(B:Int)],(V.1.map fD++ [fD X+1],(V.2.1+1,V.2.2))))):=by simp[Qym,fP,fF,fB,fD]
  rw[e];exact A8.o)⟩
     simp[By];omega
  have AK:=D (Y6 bk X i V (B:Int)=(V.1,V.2.1,V.2.2+1)) (Qcl (by rw[Bq,B8.o];exact AS));have E6:(C2 !=0)=Bn:=by simpa using AS
  obtain⟨H5,f5⟩:=Qyj.last4 AE.o.pt0;have e5:W10.cell? (J,5)=R (I Z V.2.2):=f5.hold.int.1;have DI:=qh (AE.o.setI (m:=V.2.2+1) f5 (by unfold Qyn;omega));have D6:V.2.2+1<=9223372036854775807:=by omega
  have D7:0<=V.2.2:=hv.2.1;clear AS f5;go_wp2
  go_roundw;case rel=>exact⟨k+1,(V.1,V.2.1,V.2.2+1),_,by go_num,by omega,(show Hd (_=_)from qh (by rw[AQ.o,AK.o])),(show Hd _ from qh (by have:=AP.o;show 0<=V.2.1/\0<=V.2.2+1/\V.2.1+(V.2.2+1)<=4 * i+((k+1:Nat):Int);omega)),DI.o.choose_spec.1⟩
  simp[By];omega
 have CK:V=Q0l bk p W i:=by rw[BN.o,B3.o,Ao (Nat.le_of_not_lt AI)]
 have DJ:=qh CK;clear CK;go_wp2_with fail
 go_end0
 exact⟨rfl,G',by rw[<-DJ.o];exact A1.o.noZ⟩
theorem Q1b.low{B C b o t w x G}(h:Q1b C b o t w x G)(E:B<=C):Q1b B b o t w x G:=
 let ⟨c,T,h1,h2,h3,h4,h5⟩:=h;⟨c,T,h1,h2,h3,h4,λc F=>Au E (h5 c F)⟩
def Qlw(bk x i w k):(Y6 bk x i w k).2=(w.2.1+1,w.2.2)\/(Y6 bk x i w k).2=(w.2.1,w.2.2+1):=by
 unfold Y6;split
 ·split<;>exact .inl rfl
 exact .inr rfl
def Qdt(bk:List Qy0)(x:Q4u)(i:Nat):∀(B:List Int) (w:Q10),w.2.1<=(B.foldl (Y6 bk x i) w).2.1/\w.2.2<=(B.foldl (Y6 bk x i) w).2.2/\(B.foldl (Y6 bk x i) w).2.1+(B.foldl (Y6 bk x i) w).2.2<=w.2.1+w.2.2+B.length
 | [],w=>by simp
 |k::B,w=>by have h:=Qdt bk x i B (Y6 bk x i w k);rw[List.foldl_cons,Br];rcases Qlw bk x i w k with e|e<;>(rw[e]at h;simp only at h;omega)
theorem Qtr{w}(p0 K)(bk:List Qy0)(A1:Rd (.slice Jl) w [A p0 bk K] bk)(AD:bk<=Bu){b o}(p:Ye)(hp:At Qv w b o p)(hz:Qyv Qv p<=2000000)(most)(hm:Qyn most):
  Bv prog 27 #[A p0 bk K,(b,o),most] w (Qrj Q4g Qym (Q5w bk p most) w w):=by
 have d:=qh A1;have g:=qh AD;have j:=qh hp;have k:=Q8z p;have A2:=D ((Z8 (pM p)).length+(Jd (pW p)).length<=10000000) (by have:=k.1;omega);have A3:=D ((Qr (pW p)).length<=10000000) (by have:=k.2;omega);obtain⟨L,l⟩:∃L,L=Q5w bk p most:=⟨_,rfl⟩;have m:=qh l;rw[<-l];clear A1 hp hz k l;go_enter func27,ntmps27;cases hok:(Q0s bk && Jw p)with
 |false=>
  have E:=D (L=.inl 1) (by rw[m.o];unfold Q5w;rw[hok];rfl);have q:=D ((if(Q0s bk && Jw p)=Bn then(0:Int)else 1)=1) (by rw[hok];rfl);clear hok;go_upto_region 2 with((go_at_call 59;(with_reducible refine jR (Qkl p0 K bk p d.o g.o j.o A2 A3) λw1 B=> ?_);rw[q.o];have C:=qh B;clear B))
  go_wp2_with fail
  go_ret2
  exact⟨C.o,.inl ⟨1,E.o,by decide,by unfold Qyn;omega,rfl⟩⟩
 |true=>
  have P:=hok;simp only[Bi]at P;have A4:=qh (Q0y.of P.2);have S:=P.1;unfold Q0s at S;simp only[Bi]at S;have r:∀n∈bk,Yd n=Bn:=Bf.1 S.2;have A5:=qh r;have AE:=D (∀n∈bk,Qbs n) (λn T=>(Yl (r n T)).2.2.2);have q:=D ((if(Q0s bk && Jw p)=Bn then(0:Int)else 1)=0) (by rw[hok];rfl);have A6:=qh hok;clear P S r hok;go_upto_region 2 with((go_at_call 59;(with_reducible refine jR (Qkl p0 K bk p d.o g.o j.o A2 A3) λw1 B=> ?_);rw[q.o];have C:=qh B;clear B))
  have AF:=qh (j.o.kb C);cases him:Qxi most 1 400 with
  |false=>
   have E:=D (L=.inl 2) (by rw[m.o];unfold Q5w;rw[A6.o,him];rfl);have s:=qh him;clear him;go_wp2_with((go_at_call 53;(with_reducible refine jX (Jy most 1 400) ?_);rw[s.o]))
   go_ret2
   exact⟨C.o,.inl ⟨2,E.o,by decide,by unfold Qyn;omega,rfl⟩⟩
  |true=>
   obtain⟨AU,AV⟩:1<=most/\most<=400:=by unfold Qxi at him;simpa using him
   obtain⟨F,t⟩:∃F,F=Q4m bk p most (most.toNat+1) 0 (Jp p):=⟨_,rfl⟩;have E:=D (L=Qpo F) (by rw[m.o,t];unfold Q5w;rw[A6.o,him];rfl);have AG:=qh t;have s:=qh him;clear him t;go_upto_region 7 with(first|((go_at_call 53;(with_reducible refine jX (Jy most 1 400) ?_);rw[s.o]))|((go_at_call 60;(with_reducible refine(Qsf b o p AF A4).mono ?_);rintro e w3 ⟨H,G0,rfl,T,B⟩;have A7:=qh T;have A8:=qh B;clear T B))|fail)
   have A9:=D (Qy4 w H [] w w w3 (Qym (Jp p)) G0) (⟨A7.o.low C.o.size,Q0 C A8,(Q0 C A8).size,λc hc=>(by cases hc),(by simp),λ_ _ _ _ _ _ _ _ h=>(by cases h)⟩);go_wp2
   go_loopw [10] (λx wr=>∃(i f:Nat) (W:Q10) (G:List Nat),x=I Z i/\i<=W.1/\(W.1:Int)<=most/\Hd (Q4m bk p most f i W=F)/\Hd (f+i=most.toNat+1)/\Hd (Q88 bk p W)/\Hd (0<=W.2.1/\0<=W.2.2/\W.2.1+W.2.2<=4 * i)/\Hd (Qy4 w H [] w w wr (Qym W) G)) (λx _=>500-(By x).toNat);case atStart=>exact⟨0,_,_,_,rfl,Ak _,(by simp[Jp];omega),AG.o.symm,by rfl,Q88.start A4,qh (by simp[Jp]),A9.o⟩
   clear A9 A7;rename Bh=>wo
   obtain⟨i,f,W,G,rfl,hi,hW,AA,AB,U,AC,M⟩:=hrel;obtain⟨_,f0⟩:=Qyj.fst M.o.pt0;obtain⟨u,v,O,-⟩:=f0.hold.slice;replace O:wo.cell? (H,0)=R (A u W.1 v):=by rw[O];simp[Qym]
   have AH:=M.o.pt0.lt.1;clear f0;by_cases J:i<W.1
   ·obtain⟨f,rfl⟩:∃f',f=f'+1:=⟨f-1,by have:=AB.o;omega⟩
    have y:=qh (AA.o▸(Qla (bk:=bk) (p:=p) (most:=most) (f:=f) J).symm);have AI:W.1.length<=400:=by omega
    obtain⟨V,X⟩:∃V,V=Q0l bk p W i:=⟨_,rfl⟩;have z:=Qaj U J;have A0:=Qdt bk (Q04 p W i) i (Q2x (fP (Q04 p W i))) W;have AJ:=Qeu (fP (Q04 p W i));have AK:=(U.o.pool _ (Q8x (p:=p) J)).1.1.2;rw[show(Q2x (fP (Q04 p W i))).foldl (Y6 bk (Q04 p W i) i) W=Q0l bk p W i from rfl]at A0;have AL:=D (Q88 bk p V) (by rw[X];exact U.o.expand A5 J);rw[<-X]at y z A0;have AM:=D (0<=V.2.1/\0<=V.2.2/\V.2.1+V.2.2<=4 * ((i+1:Nat):Int)) (by have:=AC.o;omega);have AN:=qh X;clear X A0 AJ AK;go_upto_region 11 with((go_at_call 61;(with_reducible refine(Qo5 w _ p0 K bk d.o g.o AE A5 H p W G M U i J AI AC).mono ?_);rintro e w5 ⟨rfl,G5,h5⟩;rw[<-AN.o]at h5;have Y:=qh h5;clear h5))
    obtain⟨_,f0⟩:=Qyj.fst Y.o.pt0;obtain⟨u,v,O,-⟩:=f0.hold.slice;rename Bh=>w5
    replace O:w5.cell? (H,0)=R (A u V.1.length v):=by rw[O];simp[Qym]
    have AH:=Y.o.pt0.lt.1;have AW:V.1.length<=404:=by omega
    clear f0;by_cases a:most<(V.1.length:Int)
    ·have AO:=D (F=N) (by have h:=y.o;rw[if_pos a]at h;exact h.symm)
     go_wp2_with fail
     go_ret2
     exact⟨Y.o.below,.inl ⟨4,by rw[E.o,AO.o];rfl,by decide,by unfold Qyn;omega,rfl⟩⟩
    have AP:=D (Q4m bk p most f (i+1) V=F) (by have h:=y.o;rw[if_neg a]at h;exact h);have AQ:=qh z;have AR:=D (f+(i+1)=most.toNat+1) (by have:=AB.o;omega);have AS:=qh a;have AX:decide (most<(V.1.length:Int))=Bm:=by simpa using a
    clear z;go_wp2
    go_roundw;case rel=>exact⟨i+1,f,V,G5,by go_num,(by have:=AQ.o;omega),(by have:=AS.o;omega),AP.o,AR.o,AL.o,AM.o,Y.o⟩
    simp[By];omega
   have AT:=qh (AA.o▸(Qin (bk:=bk) (p:=p) (most:=most) (f:=f) (Nat.le_of_not_lt J)));go_wp2_with fail
   go_ret2
   exact⟨M.o.below,.inr ⟨W,H,G,by rw[E.o,AT.o];rfl,rfl,M.o.pt0⟩⟩
theorem Qrj.l{t H c B w w' e}(h:Qrj t H (.inl c) B w e w'):Bp B w w'/\c≠0/\Qyn c/\e=.returned (.tuple #[.pointer N,c]):=by
 obtain⟨J,⟨c',C,E,F,K⟩|⟨W,b,G,C,E,F⟩⟩:=h
 ·cases C;exact⟨J,E,F,K⟩
 cases C
theorem Qrj.r{t E W B w w' e}(h:Qrj t E (.inr W) B w e w'):Bp B w w'/\∃b G,e=.returned (.tuple #[.pointer (R ⟨b,0,N⟩),()])/\Q1b B b 0 t w' (E W) G:=by
 obtain⟨J,⟨c',C,F,H,K⟩|⟨W,b,G,C,F,H⟩⟩:=h
 ·cases C
 cases C;exact⟨J,b,G,F,H⟩
def Qg2{bk p most W}(h:Q5w bk p most=.inr W):Q88 bk p W/\W.1.length<=400:=by
 unfold Q5w at h;split at h
 ·rename_i B
  split at h
  ·rename_i E
   simp only[Bi]at B;have C:=B.1;unfold Q0s at C;simp only[Bi]at C;unfold Qxi at E;simp only[Bi,decide_eq_true_eq]at E;cases hA:Q4m bk p most (most.toNat+1) 0 (Jp p)with
   |none=>rw[hA]at h;cases h
   |some V=>
    rw[hA]at h;obtain rfl:V=W:=by simpa[Qpo]using h
    have h:=Qkt (Bf.1 C.2) _ 0 _ _ (Q88.start (Q0y.of B.2)) (by simp[Jp];omega) hA;exact⟨h.1,by omega⟩
  cases h
 cases h
theorem Qmt(W:Q10)(q:Ye):Q5z (λx=>Qyo Qv x q) (W.1.map fP)=match Q25 W q with
  |some j=>(j:Int)
  |none=> -1:=by
 unfold Q5z Q25;rw[List.findIdx?_map];rfl
def Qfw{W q j}(h:Q25 W q=R j):j<W.1:=(List.findIdx?_eq_some_iff_getElem.1 h).1
def Qlf{bk p W}(h:Q88 bk p W){k:Nat}(C:k<W.1)(B:0<k):(Q3b p W k k).reverse=(Q3b p W (fF (Q04 p W k)).toNat (fF (Q04 p W k)).toNat).reverse++ [fB (Q04 p W k)]:=by
 obtain⟨q1,E⟩:=h.from_ k B C;obtain⟨n,rfl⟩:∃n,k=n+1:=⟨k-1,by omega⟩;conv=>lhs;unfold Q3b
 rw[if_pos B,List.reverse_cons,Qnu h (fF (Q04 p W (n+1))).toNat (by omega) n (fF (Q04 p W (n+1))).toNat (by omega) (Aj _)]
def Qts{t w vs x T}(h:Rd t w vs x):At t (w.alloc (.cells vs.toArray T)) w 0 x:=At.ofBox (Bg w _) (h.kb (by go_grown))
def Qx6(R:List Int×Int)(w:Bh)(e:Ending)(w':Bh):Prop:=∃v,e=.returned (.tuple #[v,R.2])/\Rd (.slice .int) w' [v] R.1/\(w,w')
theorem Qtb{w}(p0 a)(bk:List Qy0)(A7:Rd (.slice Jl) w [A p0 bk a] bk)(AQ:bk<=Bu)(vs)(p:Ye)(O:Rd Qv w vs p)(hz:Qyv Qv p<=2000000)(us)(q:Ye)(hq:Rd Qv w us q)(AR:Qyv Qv q<=2000000)(most)(hm:Qyn most):
  Bv prog 7 #[A p0 bk a,.agg vs.toArray,.agg us.toArray,I Z most] w (Qx6 (Q1p bk p q most) w):=by
 have A8:=qh A7;have A9:=qh AQ;have HP:=qh O;have HQ:=qh hq;have HZ:=qh hz;have HM:=qh hm;have A1:=Q8z q;have A2:=D ((Z8 (pM q)).length+(Jd (pW q)).length<=10000000) (by have:=A1.1;omega);have A3:=D ((Qr (pW q)).length<=10000000) (by have:=A1.2;omega);have HR:=qh (Qcg bk p q most);obtain⟨i0,AS,AT,AU,AV⟩:=info_parts Q2v;clear A7 O hq hz AR A1 hm;go_enter func7,ntmps7;go_upto_region 1 with fail
 refine Qp λb P=> ?_;have AA:=D (At Qv b w.heap.size 0 p) (by rw[P];exact(Qts (T:=46) HP).kb (by go_grown));have d:=D (At Qv b (w.heap.size+1) 0 q) (by rw[P];have h:=Qts (w:=w.alloc (.cells vs.toArray 46)) (T:=46) (HQ.o.kb (by go_grown));rw[Qxo]at h;exact h);have S:=D (w,b) (by rw[P];go_grown);have AW:=D (w.heap.size<=b.heap.size) (by rw[P];simp;omega);clear P;cases hok:Jw q with
 |false=>
  have E:=D (Q1p bk p q most=([],1)) (by rw[HR.o,hok];rfl);have K:=qh hok;clear hok;go_wp2_with((go_at_call 26;(with_reducible refine jR (Q6d q d.o A2 A3) λw1 C=> ?_);rw[K.o];have F:=qh C;clear C))
  go_ret2
  exact⟨_,by rw[E.o]<;>rfl,by rw[E.o];exact⟨_,rfl,.inl ⟨rfl,rfl⟩⟩,S.o.trans (F.o.mono AW)⟩
 |true=>
  have K:=qh hok;clear hok;cases hE:Q5w bk p most with
  |inl c=>
   have E:=D (Q1p bk p q most=([],c)) (by rw[HR.o,K.o,hE];rfl);have HE:=qh hE;clear hE;go_upto_region 4 with(first|((go_at_call 26;(with_reducible refine jR (Q6d q d.o A2 A3) λw1 C=> ?_);rw[K.o];have F:=qh C;clear C))|((go_at_call 27;(with_reducible refine(Qtr p0 a bk (A8.o.kb (Q0 S F)) A9 p (AA.o.kb F) HZ most HM).mono ?_);rintro e w2 h;rw[HE.o]at h;obtain⟨C,hc,hi,rfl⟩:=h.l;have f:=qh C;have HC:=qh hc;clear C hc hi h))|fail)
   have B8:(c !=0)=Bn:=by have:=HC.o;simpa using this
   go_wp2_with fail
   go_ret2
   exact⟨_,by rw[E.o]<;>rfl,by rw[E.o];exact⟨_,rfl,.inl ⟨rfl,rfl⟩⟩,Q0 (Q0 S F) f.o⟩
  |inr W=>
   obtain⟨AB,B9⟩:=Qg2 hE;have AC:=qh AB;have HE:=qh hE;have AD:=D (Q1p bk p q most=match Q25 W q with|none=>([],3)|some j=>((Q3b p W j j).reverse,0)) (by rw[HR.o,K.o,hE];rfl);clear hE AB;go_upto_region 6 with(first|((go_at_call 26;(with_reducible refine jR (Q6d q d.o A2 A3) λw1 C=> ?_);rw[K.o];have F:=qh C;clear C))|((go_at_call 27;(with_reducible refine(Qtr p0 a bk (A8.o.kb (Q0 S F)) A9 p (AA.o.kb F) HZ most HM).mono ?_);rintro e w2 h;rw[HE.o]at h;obtain⟨C,g,G,rfl,O⟩:=h.r;have f:=qh C;have AX:=qh O;clear C O h))|fail)
   have A4:=qh (AX.o.low (B:=0) (Ak _));have AE:=D (w,w2) (Q0 (Q0 S F) f.o);obtain⟨_,f0⟩:=Qyj.fst A4;obtain⟨m,n,d0,AF⟩:=f0.hold.slice;have AY:=qh (d.o.kb (Q0 F f.o));have o:=D (Bv prog 28 #[A m W.1 n,(w.heap.size+1,0)] w2 λe w'=>e=.returned (I Z (match Q25 W q with|some j=>(j:Int)|none=> -1))/\Q0z w2 w') (by have h:=Qpq w2 m n (W.1.map fP) (w.heap.size+1) 0 q (show Rd (.slice Qv) w2 [A m (W.1.map fP) n] (W.1.map fP)from AF.rd) (by rw[De];unfold Bu;omega) AY;rw[De,Qmt]at h;exact h);replace d0:w2.cell? (g,0)=R (A m W.1 n):=by rw[d0];simp[Qym]
   have AZ:=A4.o.lt.1;clear f0 AF;cases hpl:Q25 W q with
   |none=>
    have E:=D (Q1p bk p q most=([],3)) (by rw[AD.o,hpl]);rw[hpl]at o;clear hpl;go_wp2_with((go_at_call 28;(with_reducible refine o.o.mono ?_);rintro e H ⟨rfl,U⟩;have s:=qh U.below;clear U))
    go_ret2
    exact⟨_,by rw[E.o]<;>rfl,by rw[E.o];exact⟨_,rfl,.inl ⟨rfl,rfl⟩⟩,Q0 AE s.o⟩
   |some j=>
    have E:=D (Q1p bk p q most=((Q3b p W j j).reverse,0)) (by rw[AD.o,hpl]);rw[hpl]at o;have B0:=Qfw hpl;clear hpl;go_upto_region 9 with((go_at_call 28;(with_reducible refine o.o.mono ?_);rintro e H ⟨rfl,U⟩;have s:=qh U.below;clear U))
    have B1:=qh (A4.o.kept (X:=λ_=>False) (Ay s.o) λ_ _ h=>h);have B2:=D (w,H) (Q0 AE s.o);clear d0 AZ;go_wp2
    go_loopw [12,13] (λx y wr=>∃(k:Nat) (L:List Int),x=I Z k/\k<W.1/\L.length+k<=400/\Hd ((Q3b p W j j).reverse=(Q3b p W k k).reverse++L)/\Hd (Qxu .int 2 H.heap.size wr y L)/\Hd (H,wr)) (λx _ _=>(By x).toNat);case atStart=>exact⟨j,[],rfl,B0,(by simp;omega),qh (by simp),qh (Qxu.of_block (t:=.int) (xs:=[]) (Bg H _) (Aj _) rfl rfl (λx u=>by cases u) (by simp[Bu])),qh (by go_grown)⟩
    obtain⟨k,L,rfl,Y,hL,HW,AG,z⟩:=hrel;by_cases AH:0<k
    ·have A5:=qh (B1.o.kept (X:=λ_=>False) (Ay z.o) λ_ _ h=>h)
     have A6:=qh (Qlf AC Y AH);obtain⟨B3,B4⟩:=AC.o.from_ k AH Y;obtain⟨J,AI⟩:∃J:Nat,fF (Q04 p W k)=(J:Int):=⟨(fF (Q04 p W k)).toNat,by omega⟩;have A0:Q04 p W k=W.1[k]:=by unfold Q04;rw[Ab,Ad Y];rfl
     obtain⟨_,f2⟩:=Qyj.at2 A5;obtain⟨b2,o2,c2,H2,d2,g2⟩:=Qyj.elem f2.hold k (by simp only[Qym,De];exact Y);have e2:wr.cell? (b2,o2+k)=R (I Z (fB (Q04 p W k))):=by have h:=g2.hold.int.1;simp only[Ty.sz,Cc,Qym,List.getElem_map]at h;rw[A0];exact h
     have AJ:=g2.hold.int.2.1;replace d2:wr.cell? (g,2)=R (A (R (b2,o2)) (W.1.map fB) c2):=d2;rw[De]at d2;obtain⟨_,f1⟩:=Qyj.at1 A5;obtain⟨b1,o1,c1,H1,M,g1⟩:=Qyj.elem f1.hold k (by simp only[Qym,De];exact Y);have e1:wr.cell? (b1,o1+k)=R (I Z J):=by have h:=g1.hold.int.1;simp only[Ty.sz,Cc,Qym,List.getElem_map]at h;rw[<-AI,A0];exact h
     replace M:wr.cell? (g,1)=R (A (R (b1,o1)) (W.1.map fF) c1):=M;rw[De]at M;have B5:=D (∀V,Bp wr.heap.size wr V->(V,g,1,A (R (b1,o1)) W.1 c1)/\(V,b1,o1+k,I Z J)) (λV C=>⟨jC C M,jC C e1⟩);have AK:=D (Qyn (fB (Q04 p W k))) (by have h:=AJ;simp only[Qym,List.getElem_map]at h;rw[A0];exact h);obtain⟨x,u⟩:∃x,x=fB (Q04 p W k):=⟨_,rfl⟩;rw[<-u]at e2 AK A6;have B6:=D ((fF (Q04 p W k)).toNat=J) (by omega);rw[B6.o]at A6;have BA:J<k:=by omega
     have BB:=A5.o.lt.1;have AL:=qh z.o.size;clear f2 g2 f1 g1 AJ M e1 AI u A0 B3 B4;go_wp2_with(at_builtin;refine Ql _ rfl (.tmp 42) (.tmp 43) 34 rfl (t:=.int) (v:=A (R (wr.heap.size,0)) 1 1) (xs:=[x]) (ys:=L) rfl (by decide) H.heap.size 2 i0 _ 8 underlying34 AS AT AU AV rfl (by decide) rfl rfl (Qxu.of_block (t:=.int) (xs:=[x]) (Bg wr _) AL rfl rfl (Q29 (t:=.int) AK) (by simp[Bu])) ((AG.o.rd rfl).kb (by go_grown)) (by simp only[Dg];omega) (by have:=AL.o;simp;omega) ?_;intro v1 w5 AM AN;have B7:=qh AM;have AO:=D (wr,w5) (Below.grown (by go_grown) AN (by simp) (λi hi=>by simp only[Value.ownBlock,Bt]at hi;omega));obtain⟨M,e1⟩:=B5.o _ AO;clear AM AN)
     go_roundw;case rel=>exact⟨J,x::L,rfl,by omega,(by simp only[Br];omega),(show Hd (_=_)from qh (by rw[HW.o,A6.o];simp)),B7.o,Q0 z.o AO⟩
     simp[By];omega
    obtain rfl:k=0:=by omega
    have AP:=D (Q1p bk p q most=(L,0)) (by rw[E.o,HW.o];rfl);go_wp2_with fail
    go_ret2
    exact⟨_,by rw[AP.o]<;>rfl,by rw[AP.o];exact AG.o.rd rfl,Q0 B2 z.o⟩
theorem Qr9.o{C B w w' e}(h:Qr9 C B w e w'):∃(x:Option Addr) (c:Int),e=.returned (.tuple #[.pointer x,c])/\Qrj Qif Qxg (Qpo C) B w (.returned (.tuple #[.pointer x,c])) w':=by
 obtain⟨E,⟨rfl,rfl⟩|⟨W,b,G,rfl,rfl,F⟩⟩:=h
 ·exact⟨_,_,rfl,E,.inl ⟨4,rfl,by decide,by unfold Qyn;omega,rfl⟩⟩
 exact⟨_,_,rfl,E,.inr ⟨W,b,G,rfl,rfl,F⟩⟩
theorem Qrj.low{t J K B w}{w1:Bh}{w' e}(h:Qrj t J K w1 w1 e w')(L:Bp B w w1)(C:B<=w1):Qrj t J K B w e w':=by
 obtain⟨M,⟨c,E,F,H,O⟩|⟨W,b,G,E,F,H⟩⟩:=h
 ·exact⟨L.trans (M.mono C),.inl ⟨c,E,F,H,O⟩⟩
 exact⟨L.trans (M.mono C),.inr ⟨W,b,G,E,F,H.low C⟩⟩
def Qc4{w}(p0 E)(bk:List Qy0)(o:Rd (.slice Jl) w [A p0 bk E] bk)(A0:bk<=Bu)(vs)(p:Ye)(g:Rd Qv w vs p)(hz:Qyv Qv p<=2000000)(most)(hm:Qyn most)(q:Lib.TabIs prog w "internal/strconv.uint64pow10" .u64 Lib.pow10Tab):
  Bv prog 33 #[A p0 bk E,.agg vs.toArray,most] w (Qrj Qif Qxg (Q5w bk p most) w w):=by
 obtain⟨F,v1,G,H,J,K,L,rfl⟩:=Qda (Rd.length g);have r:=qh o;have A1:=qh A0;have s:=qh g;have HT:=qh (Lib.tabBelow_of_tabIs q);have i:=Q8z p;have U:=D ((Z8 (pM p)).length+(Jd (pW p)).length<=10000000) (by have:=i.1;omega);have W:=D ((Qr (pW p)).length<=10000000) (by have:=i.2;omega);obtain⟨O,j⟩:∃O,O=Q5w bk p most:=⟨_,rfl⟩;have X:=qh j;rw[<-j];clear o g hz i j q;go_enter func33,ntmps33;go_upto_region 1 with fail
 refine Qp λY l=> ?_;have t:=D (Y,oC w.heap.size #[F,v1,G,H,J,K,L] 46) (by rw[l];exact Bg w _);have P:=D (w,Y) (by rw[l];go_grown);have a:=qh (s.o.kb P);have b:=qh (r.o.kb P);clear l;obtain⟨u,v,y,z,a4,a5,a6⟩:=Q0t t.o;cases hok:(Q0s bk && Jw p)with
 |false=>
  have M:=D (O=.inl 1) (by rw[X.o];unfold Q5w;rw[hok];rfl);have A2:=qh hok;clear hok;go_wp2_with((go_at_call 74;(with_reducible refine jR (Q3e p0 E bk [F,v1,G,H,J,K,L] p b.o a.o U W) λw1 B=> ?_);rw[A2.o];have C:=qh B;clear B))
  go_ret2
  exact⟨Q0 P C,.inl ⟨1,M.o,by decide,by unfold Qyn;omega,rfl⟩⟩
 |true=>
  have S:=qh hok;have d:=hok;simp only[Bi]at d;have A3:=qh (Q0y.of d.2);have f:=d.1;unfold Q0s at f;simp only[Bi]at f;have m:∀n∈bk,Yd n=Bn:=Bf.1 f.2;have A4:=qh m;have A5:=D (∀n∈bk,Qbs n) (λn hn=>(Yl (m n hn)).2.2.2);clear d f m hok;by_cases h1:most<1
  ·have M:=D (O=.inl 2) (by rw[X.o];unfold Q5w Qxi;rw[S.o,if_pos rfl,if_neg (by simp;omega)])
   go_wp2_with((go_at_call 74;(with_reducible refine jR (Q3e p0 E bk [F,v1,G,H,J,K,L] p b.o a.o U W) λw1 B=> ?_);rw[S.o];have C:=qh B;clear B))
   go_ret2
   exact⟨Q0 P C,.inl ⟨2,M.o,by decide,by unfold Qyn;omega,rfl⟩⟩
  have A6:decide (most<1)=Bm:=by simpa using h1
  by_cases h2:400<most
  ·have M:=D (O=.inl 2) (by rw[X.o];unfold Q5w Qxi;rw[S.o,if_pos rfl,if_neg (by simp;omega)])
   go_wp2_with((go_at_call 74;(with_reducible refine jR (Q3e p0 E bk [F,v1,G,H,J,K,L] p b.o a.o U W) λw1 B=> ?_);rw[S.o];have C:=qh B;clear B))
   go_ret2
   exact⟨Q0 P C,.inl ⟨2,M.o,by decide,by unfold Qyn;omega,rfl⟩⟩
  have A7:decide (400<most)=Bm:=by simpa using h2
  have M:=D (O=Qpo (Q4m bk p most (most.toNat+1) 0 (Jp p))) (by rw[X.o];unfold Q5w Qxi;rw[S.o,if_pos rfl,if_pos (by simp;omega)]);have A8:=D (1<=most) (by omega);have A9:=D (most<=400) (by omega);have AA:=D (∀V,Bp Y Y V->(V,w.heap.size,0,F)/\(V,w.heap.size,1,v1)/\(V,w.heap.size,2,G)/\(V,w.heap.size,3,H)/\(V,w.heap.size,4,J)/\(V,w.heap.size,5,K)/\(V,w.heap.size,6,L)) (λV h=>Q0t (Qf t.o h));go_upto_region 5 with((go_at_call 74;(with_reducible refine jR (Q3e p0 E bk [F,v1,G,H,J,K,L] p b.o a.o U W) λw1 B=> ?_);rw[S.o];have C:=qh B;clear B))
  clear u v y z a4 a5 a6 h1 h2 A6 A7;obtain⟨u,v,y,z,a4,a5,a6⟩:=AA.o _ C;have T:=D (w,w1) (Q0 P C);go_wp2_with((go_at_call 75;(with_reducible refine(Qma p0 E bk (r.o.kb T) A1 A5 A4 [F,v1,G,H,J,K,L] p (s.o.kb T) A3 most A8 A9 (HT.o.on T).here).mono ?_);rintro e w2 h;obtain⟨x,c,rfl,k⟩:=h.o;have AB:=qh (k.low T T.o.size);clear h k))
  go_ret2
  rw[M.o];exact AB.o
end Go.Proofs.YtcjngpfigpglfaaGreatDoor
