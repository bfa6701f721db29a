import Derived.Test.YtcjngpfigpglfaaGreatDoorP18
set_option maxHeartbeats 0
set_option maxRecDepth 100000
set_option linter.all false
namespace Go.Proofs.YtcjngpfigpglfaaGreatDoor
open Go.RowKit Go.Proofs.Tryz
open Go.Value renaming int->I,slice->A
open Go.IntKind renaming i64->Z
open Option renaming none->N,some->R
open OC(oC)
open OR(oR)
open JN(jN)
open Go renaming maxLen->Bu,heap_alloc_new->Bg,madeCells->Ds
open Go.Addr.mk renaming injEq->Cq
open Go.RowKit renaming Below->Bp,intOf->By
open Go.Value renaming agg->Dl
open Int renaming toNat_natCast->Bq
open List renaming nodup_nil->Gq,foldl_cons->Cb,range->Bz
open Nat renaming mul_one->Cc,zero_add->Cg,add_zero->Cw,reduceAdd->Bj,one_mul->Ia,le_of_lt->Fu,zero_mul->Dm
open Option.some renaming injEq->Bt
theorem Ql8{w g T a b c d}(h:w.heap[g]?=R (.cells #[a,b,c,d] T))(B:Qyn a)(C:Qyn b)(E:Qyn c)(F:Qyn d):Ow (.slice Z7) w [A (R (g,0)) 1 1] [((a,b),(c,d))] [g]:=
 ⟨_,rfl,.inr ⟨g,0,1,_,T,[[]],rfl,Aj _,by simp[Bu],h,by simp[Ty.sz],by simp,rfl,λi G=>by
  match i,G with
  |0,_=>exact Ow.link B C E F⟩⟩
def Q9t{ws:List Wd}{i:Nat}(h):ws.getD i (0,0)=(ws[i].1,ws[i].2):=by rw[Ab,Ad h];rfl
theorem Qsp(w g m S e l)(h:Zh w g 0 m S)(hl:Yq m (e::l))(P U F)(Y:List Int)(d:List Wd)(px qx cx ex Gx)(AR:Ow Q4 w [I Z P,I Z U,I Z F,A px Y cx,A qx d ex] (P,U,F,Y,d) Gx)(AS:∀c∈Gx,c∉g::S.all)(ky H E)(J:List Int)(C:List Wd)(py qy cy ey Gy)(AT:Ow Q4 w [I Z ky,I Z H,I Z E,A py J cy,A qy C ey] (ky,H,E,J,C) Gy)(AU:∀c∈Gy,c∉g::S.all)(hk:ky=7/\2<=C.length\/ky=8/\0<J.length/\0<C.length)(hC:(mC m).length<=1000000):
  Calls prog 254 #[.pointer (R ⟨g,0,N⟩),.agg #[I Z P,I Z U,I Z F,A px Y cx,A qx d ex],.agg #[I Z ky,I Z H,I Z E,A py J cy,A qy C ey]] w λe w'=>∃v' S' l',e=.returned v'/\Qn w S g 0 w' (Q40 m (P,U,F,Y,d) (ky,H,E,J,C)).1 S' l'/\Je Z7 w S' w' v' (Q40 m (P,U,F,Y,d) (ky,H,E,J,C)).2:=by
 have BM:=qh (Qn.start h hl);have BN:=qh AR;have AV:=qh AT;have AW:=qh h.lt;have BO:=qh AS;have BP:=qh AU;have C7:g<w:=h.blk.lt;have AK:0<C.length:=by omega
 clear h hl AR AT AS AU;go_enter func254,ntmps254;go_upto_region 1 with fail
 refine Qp λB A6=> ?_;have BQ:=D (w,B) (by rw[A6];go_grown);have BR:B.heap.size=w+1+1:=by rw[A6];simp
 have BS:=D (Q5p Q4 B w 0 (P,U,F,Y,d) Gx) (by rw[A6];exact(Q5p.arg BN).frame (X:=λ_=>False) ((Q1.refl _ _).alloc _) (λ_ _ h=>h));have BT:=D (Q5p Q4 B (w+1) 0 (ky,H,E,J,C) Gy) (by rw[A6];have:=Q5p.arg (w:=w.alloc (.cells #[I Z P,I Z U,I Z F,A px Y cx,A qx d ex] 172)) (T:=172) (AV.o.frame (X:=λ_=>False) ((Q1.refl _ _).alloc _) (λb hb=>⟨AV.o.lt b hb,λh=>h⟩));simpa using this);have BU:=D (Qao (w.heap.size::Gx) g S) (λc hc=>by
  rcases Aq.1 hc with rfl|hc
  ·exact λhm=>by have:=AW.o _ hm;omega
  exact BO.o c hc)
 have BV:=D (Qao ((w.heap.size+1)::Gy) g S) (λc hc=>by
  rcases Aq.1 hc with rfl|hc
  ·exact λhm=>by have:=AW.o _ hm;omega
  exact BP.o c hc)
 obtain⟨C8,C9,CA,A7,iy,BW,BX,AX⟩:=BT.o.facts BV;obtain⟨_,_,_,_,ix,-,-,AY⟩:=BS.o.facts BU;have AD:=qh AX;have AZ:=qh AY;have AE:=qh iy;have B0:=qh ix;have A8:=qh (BM.o.below BQ);have CB:w.heap.size<B:=by omega
 have CC:w.heap.size+1<B.heap.size:=by omega
 unfold Bu at BW BX;clear AX AY iy ix A6 BR;rcases hk with⟨rfl,BY⟩|⟨rfl,AL,-⟩;case' inr=>
  have A1:=D (Q40 m (P,U,F,Y,d) (8,H,E,J,C)=(Qi m (6,0,J6 E (J.getD 0 0) F,[],[]),[(C.getD 0 (0,0),((1:Int),mF m))])) (rfl);obtain⟨⟨k0,k1,k,k3,-⟩,B1,-⟩:=AD.o _ (Q1.refl _ _);obtain⟨⟨-,-,f,-,-⟩,-,-⟩:=AZ.o _ (Q1.refl _ _);obtain⟨bd,od,rfl,hD⟩:=Rd.elem B1 0 AL;obtain⟨d0,CD⟩:=At.int hD;simp only[Ty.sz,Cc,Cg,Cw]at d0 k0 k1 k k3 f;have B2:=D (J.getD 0 0=J[0]) (by rw[Ab,Ad AL];rfl);have BZ:(0:Int)<J:=by omega
  generalize J[0]=dv at *
  clear hD B1;go_upto_region 4 with fail
  have K:=D (Bp B B (B.alloc (.cells #[I Z 6,(),(),jN,jN] 172))) (by go_grown);have L:=qh (Bg B (.cells #[I Z 6,(),(),jN,jN] 172));have A9:B.heap.size<(B.alloc (.cells #[I Z 6,(),(),jN,jN] 172)).heap.size:=by simp
  generalize B.alloc (.cells #[I Z 6,(),(),jN,jN] 172)=V at *
  have AA:bd≠B:=by have:=Ac B _ d0;simp only at this;omega
  have k:=jC K k;have k3:=jC K k3;have f:=jC K f;have d0:=jC K d0;obtain⟨⟨r0,r1,r2,r3,r4⟩,rf⟩:=Yf L;have A2:w.heap.size+1≠B.heap.size:=by omega
  have AF:w.heap.size≠B:=by omega
  go_still_tail 8,(by kernel_rfl)
  go_wp2_with((go_at_call 282;(with_reducible refine(Qmd).mono ?_);rintro e' w' ⟨rfl,rfl⟩))
  have B3:=D (((V.setCell ⟨B,2,N⟩ (I Z (J6 E dv F))).drew).heap[B.heap.size]?=R (.cells #[I Z 6,(),I Z (J6 E dv F),jN,jN] 172 (0,0))) (Z1 L);have B4:=qh (K.o.setCell (p:=⟨B,2,N⟩) (Aj _) (I Z (J6 E dv F))).drew;have B5:=D (∀W:World,Ow Q4 W [I Z 6,(),I Z (J6 E dv F),jN,jN] (6,0,J6 E dv F,[],[]) []) (λW=>Ow.mkAgent (by unfold Qyn;omega) (by unfold Qyn;omega) (Qcy) (Ow.nil _) (Ow.nil _));have A3:=D (Q40 m (P,U,F,Y,d) (8,H,E,J,C)=(Qi m (6,0,J6 E dv F,[],[]),[(C.getD 0 (0,0),((1:Int),mF m))])) (by rw[A1.o,B2.o]);clear A1 B2 k k3 f d0 rf r0 r1 r2 r3 r4 k0 k1 A2 AF AA;generalize (V.setCell ⟨B,2,N⟩ (I Z (J6 E dv F))).drew=M at *
  obtain⟨n,o,r,s,u,v,x,y,z,yc,O,AG,B6,B7,AH,A1⟩:∃(n o r:Int) (s:Option Addr) (u v:Nat) (x:Option Addr) (y z:Nat) (yc:Qb) (O:List Nat),Hd (M.heap[B.heap.size]?=R (.cells #[I Z n,I Z o,I Z r,A s u v,A x y z] 172 (0,0)))/\Hd (B,M)/\Hd (Ow Q4 M [I Z n,I Z o,I Z r,A s u v,A x y z] yc O)/\Hd (O.Nodup/\∀q∈O,B<q)/\Hd (Q40 m (P,U,F,Y,d) (8,H,E,J,C)=(Qi m yc,[(C.getD 0 (0,0),((1:Int),mF m))])):=⟨6,0,J6 E dv F,N,0,0,N,0,0,(6,0,J6 E dv F,[],[]),[],B3,B4,qh (B5.o _),qh ⟨Gq,by simp⟩,A3⟩;clear K L A9 B3 B4 B5 A3 AL BZ
 case' inl=>
  have AM:1<C.length:=by omega
  have A3:=D (Q40 m (P,U,F,Y,d) (7,H,E,J,C)=(Qi m (8,H,E,[F],[C.getD 1 (0,0)]),[(C.getD 0 (0,0),((1:Int),mF m))])) (rfl);obtain⟨⟨k0,k1,k,-,k4⟩,-,AI⟩:=AD.o _ (Q1.refl _ _);obtain⟨⟨-,-,f,-,-⟩,-,-⟩:=AZ.o _ (Q1.refl _ _);obtain⟨bw,ow,B8,hE⟩:=Rd.elem AI 1 AM;obtain⟨e0,e1,B9⟩:=At.word (t:=C[1].1) (a:=C[1].2) hE;rw[B8]at k4;simp only[Ty.sz,Bj,Cc,Ia,Cg,Cw,Nat.add_assoc]at e0 e1 k0 k1 k k4 f;have AN:=qh (Q9t AM);have C0:(1:Int)<C:=by omega
  have AB:=qh B9;generalize C[1].1=zt at *
  generalize C[1].2=za at *
  clear B8 hE AI B9;go_upto_region 3 with fail
  have K:=D (Bp B B (B.alloc (.cells #[I Z 6,(),(),jN,jN] 172))) (by go_grown);have L:=qh (Bg B (.cells #[I Z 6,(),(),jN,jN] 172));have A9:B.heap.size<(B.alloc (.cells #[I Z 6,(),(),jN,jN] 172)).heap.size:=by simp
  generalize B.alloc (.cells #[I Z 6,(),(),jN,jN] 172)=V at *
  have AA:bw≠B:=by have:=Ac B _ e0;simp only at this;omega
  have k1:=jC K k1;have k:=jC K k;have k4:=jC K k4;have f:=jC K f;have e0:=jC K e0;have e1:=jC K e1;obtain⟨⟨r0,r1,r2,r3,r4⟩,rf⟩:=Yf L;have l1:=Ac V _ k1;have l2:=Ac V _ f;have l3:=Ac V _ e0;have A2:w.heap.size+1≠B.heap.size:=by omega
  have AF:w.heap.size≠B:=by omega
  have BA:=D (∀W,Q1 (λc=>c=B.heap.size) V W->(W,w.heap.size+1,1,I Z H)/\(W,w.heap.size+1,2,I Z E)/\(W,w.heap.size,2,I Z F)/\(W,w.heap.size+1,4,A (R ⟨bw,ow,N⟩) C A7)/\(W,bw,ow+2,I Z zt)/\(W,bw,ow+3,I Z za)) (λW j=>⟨Qo j k1 A2,Qo j k A2,Qo j f AF,Qo j k4 A2,Qo j e0 AA,Qo j e1 AA⟩)
  go_region_held3(λW=>(W,w.heap.size+1,1,I Z H)/\(W,w.heap.size+1,2,I Z E)/\(W,w.heap.size,2,I Z F)/\(W,w.heap.size+1,4,A (R ⟨bw,ow,N⟩) C A7)/\(W,bw,ow+2,I Z zt)/\(W,bw,ow+3,I Z za))
   (((with_reducible refine BA.o _ ?_);(with_reducible refine Q1.drew ?_);(repeat(with_reducible refine Q1.alloc ?_ _));(first|with_reducible exact Q1.refl _ _|exact Q1y (X:=λc=>c=B.heap.size) (Q1.refl (λc=>c=B.heap.size) V) rfl _ _ _ _ _|fail)))
   (fail)
  all_goals
   refine Qp λM BB=> ?_;obtain⟨n,o,r,s,u,v,x,y,z,yc,O,AG,B6,B7,AH,A1⟩:∃(n o r:Int) (s:Option Addr) (u v:Nat) (x:Option Addr) (y z:Nat) (yc:Qb) (O:List Nat),Hd (M.heap[B.heap.size]?=R (.cells #[I Z n,I Z o,I Z r,A s u v,A x y z] 172 (0,0)))/\Hd (B,M)/\Hd (Ow Q4 M [I Z n,I Z o,I Z r,A s u v,A x y z] yc O)/\Hd (O.Nodup/\∀q∈O,B<q)/\Hd (Q40 m (P,U,F,Y,d) (7,H,E,J,C)=(Qi m yc,[(C.getD 0 (0,0),((1:Int),mF m))])):=by
    rw[BB]
    first
     |exact⟨8,H,E,R ⟨V,0,N⟩,1,1,R ⟨V+1,0,N⟩,1,1,(8,H,E,[F],[(zt,za)]),[V.heap.size]++ [V.heap.size+1],qh (Q34 L).2.2.1,qh (K.o.trans ((Q34 L).2.2.2.below (Fu A9) (λi e=>by omega))),qh (Ow.mkAgent (by unfold Qyn;omega) AE.o.2.1 AE.o.2.2 (Qbi (Q34 L).1 B0.o.2.2) (Q5k (Q34 L).2.1 AB.o.1 AB.o.2)),qh ⟨by simp,by simp;omega⟩,qh (by rw[A3.o,AN.o])⟩
     |exact⟨8,H,E,R ⟨V+1,0,N⟩,1,1,R ⟨V,0,N⟩,1,1,(8,H,E,[F],[(zt,za)]),[V.heap.size+1]++ [V.heap.size],qh (Q34 L).2.2.1,qh (K.o.trans ((Q34 L).2.2.2.below (Fu A9) (λi e=>by omega))),qh (Ow.mkAgent (by unfold Qyn;omega) AE.o.2.1 AE.o.2.2 (Qbi (Q34 L).2.1 B0.o.2.2) (Q5k (Q34 L).1 AB.o.1 AB.o.2)),qh ⟨by simp,by simp;omega⟩,qh (by rw[A3.o,AN.o])⟩
   clear BB K L A9 k0 k1 k f k4 e0 e1 BA A3 AN A2 AF AA rf r0 r1 r2 r3 r4 l1 l2 l3 BY C0 AM AB
 all_goals
  have A4:=qh ((Qn.start A8.o.mem A8.o.free).below B6);obtain⟨⟨-,-,-,-,y4⟩,-,BC⟩:=AD.o _ A4.o.fr;obtain⟨by_,A0,BD,hE⟩:=Rd.elem BC 0 AK;have BE:=D (∀G,Q1 (λc=>c=g\/c∈S.all) B G->(G,w.heap.size+1,4,A (R ⟨by_,A0,N⟩) C A7)/\(G,by_,A0,I Z C[0].1)/\(G,by_,A0+1,I Z C[0].2)) (λG j=>by obtain⟨⟨-,-,-,-,k4⟩,-,AI⟩:=AD.o G j;obtain⟨b2,o2,AO,C1⟩:=Rd.elem AI 0 AK;rw[BD]at AO k4;simp only[Bt,Cq,and_true]at AO;obtain⟨rfl,rfl⟩:=AO;have:=At.word (t:=C[0].1) (a:=C[0].2) C1;simp only[Ty.sz,Bj,Cg,Dm,Cw]at this k4;exact⟨k4,this.1,this.2.1⟩);have BF:=D (Qyn C[0].1/\Qyn C[0].2) ((At.word (t:=C[0].1) (a:=C[0].2) hE).2.2);have C2:=qh (Q9t AK);generalize C[0].1=wt at *
  generalize C[0].2=wa at *
  clear BD hE BC y4;obtain⟨y4,f0,f1⟩:=BE.o _ A4.o.fr;obtain⟨⟨r0,r1,r2,r3,r4⟩,-⟩:=Yf AG;have CE:B.heap.size<M:=Zl AG;have BG:=D (mF m=(e:Int)/\e<(mC m)) (⟨(A4.o.first Z6).1,(A4.o.first Z6).2.1⟩);have C3:=D (Qyn (e:Int)) (by have h1:=BG.o.2;unfold Qyn;omega);have BH:=qh A8.o.mem.lt;have BI:=D ((∀q∈O,q∉g::S.all)/\∀q∈O,B<=q) (⟨λq hq hm=>by have:=AH.o.2 q hq;have:=BH.o q hm;omega,λq hq=>Fu (AH.o.2 q hq)⟩);have CF:(0:Int)<C:=by omega
  have AC:=D (¬(B=g\/B=S.cb)) (λh=>by have h1:=BH.o g Ae;have h2:=A8.o.mem.cells.blk.lt;omega);have AJ:=D (∀G,Q1 (λc=>c=g\/c∈S.all) B G->Q1 (λc=>c=g\/c=S.cb) M G->((G,w.heap.size+1,4,A (R ⟨by_,A0,N⟩) C A7)/\(G,by_,A0,I Z wt)/\(G,by_,A0+1,I Z wa))/\(G,B.heap.size,0,I Z n)/\(G,B.heap.size,1,I Z o)/\(G,B.heap.size,2,I Z r)/\(G,B.heap.size,3,A s u v)/\(G,B.heap.size,4,A x y z)) (λG h1 h2=>by obtain⟨⟨g0,g1,g2,g3,g4⟩,-⟩:=Yf AG;exact⟨BE.o G h1,Q62 h2 g0 g1 g2 g3 g4 AC AC AC AC AC⟩);have C4:=D (Q1 (λc=>c=g\/c=S.cb) M M.drew) ((Q1.refl _ M).drew);have C5:=D (Qyn (1:Int)) (by unfold Qyn;omega);go_wp2_with fail
  go_region_held3(λW=>((W,w.heap.size+1,4,A (R ⟨by_,A0,N⟩) C A7)/\(W,by_,A0,I Z wt)/\(W,by_,A0+1,I Z wa))/\(W,B.heap.size,0,I Z n)/\(W,B.heap.size,1,I Z o)/\(W,B.heap.size,2,I Z r)/\(W,B.heap.size,3,A s u v)/\(W,B.heap.size,4,A x y z))
   (first|(with_reducible first|exact AJ.o _ BJ.o.fr C6.o|exact AJ.o _ AP.o.fr AQ.o|exact AJ.o _ BK.o.fr BL.o|exact AJ.o _ A4.o.drew.fr C4.o)|fail)
   (first|((go_at_call 273;(with_reducible refine(Q60 A4.o.drew n o r s x u v y z yc O (B7.o.kept λ_ _=>rfl) AH.o.1 BI.o.1 BI.o.2).mono ?_);rintro e' CG ⟨rfl,hs,j⟩;have BK:=qh hs;have BL:=qh (Q1.trans (show Q1 (λc=>c=g\/c=S.cb) M _ from(Q1.refl _ M).drew) j);clear hs j))|((go_at_call 277;(with_reducible refine(Q0g _ (e:Int)).mono ?_);rintro e' A5 ⟨rfl,hb⟩;have AP:=qh (BK.o.below hb);have AQ:=qh (Q1.trans BL (Ay hb));have BJ:=qh (AP.o.below (show Bp A5 A5 (A5.alloc (.cells #[I Z wt,I Z wa,I Z 1,I Z e] 289))from(Ai _ _).alloc (Aj _) _));have C6:=qh (AQ.o.alloc (.cells #[I Z wt,I Z wa,I Z 1,I Z e] 289));clear hb))|fail)
  go_wp2_with fail
  go_ret;refine⟨_,S.put (e:Int) O,l,rfl, ?_, ?_⟩
  ·rw[A1.o];exact A8.o.trans BJ.o
  rw[A1.o];show Je Z7 _ _ _ _ [(C.getD 0 (0,0),((1:Int),mF m))];rw[C2.o,BG.o.1];have hz:=AQ.o.size;refine⟨[A5.heap.size],Ql8 (Bg A5 _) BF.o.1 BF.o.2 C5 C3,by simp,λq hq=> ?_⟩;obtain rfl:q=A5.heap.size:=by simpa using hq
  exact⟨by omega,λhm=>by have h2:=AP.o.mem.lt _ (Aa _ hm);omega⟩
def Qar(m:Qyb)(l:List Nat)(L:List Int):Prop:=∀a∈L,∃q:Nat,a=(q:Int)/\q<(mC m)/\q∉l/\(aW (Q9 (mC m) q)).length=2
theorem Qar.word{m l L}(h:Qar m l L)(i k x):Qar (Qm m i k x) l L:=λa E=>by
 obtain⟨q,F,G,H,C⟩:=h a E;refine⟨q,F,by unfold Qm;rw[Qjq];exact G,H, ?_⟩;by_cases e:i.toNat=q
 ·have J:i.toNat<(mC m):=by omega
  have B:=Q5q m i ((aW (Q7 (mC m) i)).set k.toNat x) J;unfold Q7 at B;rw[e]at B;unfold Qm Q7;rw[e,B,List.length_set];exact C
 have:=Q72 m i (q:Int) ((aW (Q7 (mC m) i)).set k.toNat x) (by rw[Bq];exact e);unfold Q7 at this;rw[Bq]at this;unfold Qm Q7;rw[this];exact C
theorem Qar.take{m a l L}(h:Qar m (a::l) L)(G:mF m=(a:Int))(E:a<(mC m))(H:a∉l)(y)(J:(aW y).length=2):Qar (Qi m y) l (L++ [(a:Int)]):=λz B=>by
 have F:∀q:Nat,Q9 (mC (Qi m y)) q=if a=q/\q<(mC m) then y else Q9 (mC m) q:=λq=>by have:=Yr m y (q:Int);unfold Q7 at this;rw[G,Bq,Bq]at this;exact this
 rcases At0.1 B with B|B
 ·obtain⟨q,K,M,C,O⟩:=h z B
  simp only[List.mem_cons,not_or]at C;refine⟨q,K,by rw[Qg];exact M,C.2, ?_⟩;rw[F q,if_neg (λe=>C.1 e.1.symm)];exact O
 obtain rfl:z=(a:Int):=by simpa using B
 exact⟨a,rfl,by rw[Qg];exact E,H,by rw[F a,if_pos ⟨rfl,E⟩];exact J⟩
theorem Qac(m:Qyb)(l:Int)(xs:List Wd)(B:Wd):∀n,(Q1q m l xs B n).2.length=n
 |0=>rfl
 |n+1=>by simp[Q1q,Qac m l xs B n]
def Qqd(m:Qyb)(l:Int)(xs:List Wd)(B:Wd):∀n,mX (Q1q m l xs B n).1=mX m
 |0=>rfl
 |n+1=>by show mX (Q1q m l xs B n).1=_;exact Qqd m l xs B n
theorem Qof(m:Qyb)(l:Int)(xs:List Wd)(B:Wd):∀n,(mC (Q1q m l xs B n).1).length=(mC m)
 |0=>rfl
 |n+1=>by simp only[Q1q,Qg,Qof m l xs B n]
theorem Qe0(B:List Int):∀(l:List Nat) (m:Qyb),mX (l.foldl (Q67 B) m)=mX m
 | [],_=>rfl
 |a::l,m=>by rw[Cb,Qe0 B l];rfl
def Qdg(B:List Int){C:List Nat}{L:List Int}:∀(l:List Nat) (m:Qyb),Qar m C L->Qar (l.foldl (Q67 B) m) C L
 | [],_,h=>h
 |a::l,m,h=>by rw[Cb];exact Qdg B l _ (h.word _ _ _)
def Ql0{w g T a b c d}(h:w.heap[g]?=R (.cells #[a,b,c,d] T))(B:Qyn a)(C:Qyn b)(E:Qyn c)(F:Qyn d):Ow (.slice Q5) w [A (R (g,0)) 2 2] [(a,b),(c,d)] [g]:=
 ⟨_,rfl,.inr ⟨g,0,2,_,T,[[],[]],rfl,Aj _,by simp[Bu],h,by simp[Ty.sz],by simp,rfl,λi G=>by
  match i,G with
  |0,_=>exact Ow.word B C
  |1,_=>exact Ow.word E F⟩⟩
def Qn.wordB{E w F S pb G m l}(h:Qn E F pb G w m S l){i:Int}(H:i.toNat<(mC m))(J:i.toNat∉l){k:Nat}(K:k<(aW (Q7 (mC m) i))):
  ∃(B ow C:Nat),(w,S.cb,S.o+i.toNat * 5+4,A (R (B,ow)) (aW (Q7 (mC m) i)) C)/\(B∈S.all/\B≠pb/\B≠S.cb)/\(aW (Q7 (mC m) i))<=C/\
   ∀V,Bp w w V->(∃u,V.cell? (B,ow+k * 2)=R u)/\(∃u,V.cell? (B,ow+k * 2+1)=R u)/\(∀q,V.frozen? ⟨B,q,N⟩=false)/\∀t a,Qyn t->Qyn a->Qn E F pb G ((V.setCell (B,ow+k * 2) t).setCell (B,ow+k * 2+1) a) (Qa m i ((aW (Q7 (mC m) i)).set k (t,a))) S l:=by
 obtain⟨B,ow,C,L,-,-,O,P,-⟩:=h.wordAt H J K;refine⟨B,ow,C,L,O,P,λV M=> ?_⟩;obtain⟨U,W,X,T,Y,b,-,-,c⟩:=(h.below M).wordAt H J K;rw[(Am M).cell _ _ L]at T;simp_all
theorem Qo7(w g m S c l)(h:Zh w g 0 m S)(hl:Yq m (c::l))(d f L)(n:List Int)(B:List Wd)(px qx cx ex Gx)(BI:Ow Q4 w [I Z d,I Z f,I Z L,A px n cx,A qx B ex] (d,f,L,n,B) Gx)(BJ:∀c∈Gx,c∉g::S.all)(U C p)(J:List Int)(H:List Wd)(py qy cy ey Gy)(BK:Ow Q4 w [I Z U,I Z C,I Z p,A py J cy,A qy H ey] (U,C,p,J,H) Gy)(BL:∀c∈Gy,c∉g::S.all)(BM:B.length<=l)(FA:B.length<=1000)(AB:0<H.length)(BN:0<J.length)(hd:U=10->0<=L/\L<J)(AM:U≠10->2<=J.length)(hX:(mX m).length<=1000000)(hC:(mC m).length<=1000000):
  Calls prog 255 #[.pointer (R ⟨g,0,N⟩),.agg #[I Z d,I Z f,I Z L,A px n cx,A qx B ex],.agg #[I Z U,I Z C,I Z p,A py J cy,A qy H ey]] w λe w'=>∃v' S' l',e=.returned v'/\Qn w S g 0 w' (Q4j m (d,f,L,n,B) (U,C,p,J,H)).1 S' l'/\Je Z7 w S' w' v' (Q4j m (d,f,L,n,B) (U,C,p,J,H)).2:=by
 have AN:=qh (Qn.start h hl);have D4:=qh BI;have BO:=qh BK;have AY:=qh h.lt;have D5:=qh BJ;have D6:=qh BL;have D7:=qh BM;have FB:g<w:=h.blk.lt;clear h hl BI BK BJ BL BM;go_enter func255,ntmps255;go_upto_region 1 with fail
 refine Qp λM AC=> ?_;have D8:=D (w,M) (by rw[AC];go_grown);have D9:M.heap.size=w+1+1:=by rw[AC];simp
 have AZ:=D (Q5p Q4 M w 0 (d,f,L,n,B) Gx) (by rw[AC];exact(Q5p.arg D4).frame (X:=λ_=>False) ((Q1.refl _ _).alloc _) (λ_ _ h=>h));have BP:=D (Q5p Q4 M (w+1) 0 (U,C,p,J,H) Gy) (by rw[AC];have:=Q5p.arg (w:=w.alloc (.cells #[I Z d,I Z f,I Z L,A px n cx,A qx B ex] 172)) (T:=172) (BO.o.frame (X:=λ_=>False) ((Q1.refl _ _).alloc _) (λb hb=>⟨BO.o.lt b hb,λh=>h⟩));simpa using this);have DA:=D (Qao (w.heap.size::Gx) g S) (λc W=>by
  rcases Aq.1 W with rfl|W
  ·exact λP=>by have:=AY.o _ P;omega
  exact D5.o c W)
 have BQ:=D (Qao ((w.heap.size+1)::Gy) g S) (λc W=>by
  rcases Aq.1 W with rfl|W
  ·exact λP=>by have:=AY.o _ P;omega
  exact D6.o c W)
 obtain⟨FC,FD,FE,AD,iy,DB,DC,BR⟩:=BP.o.facts BQ;obtain⟨FF,FG,FH,FI,ix,-,DD,BS⟩:=AZ.o.facts DA;have AO:=qh BR;have B0:=qh BS;have BT:=qh iy;have FJ:=qh ix;have AP:=qh (AN.o.below D8);have BU:=qh (Qn.start AP.o.mem AP.o.free);have FK:w.heap.size<M:=by omega
 have FL:w.heap.size+1<M.heap.size:=by omega
 unfold Bu at DB DC DD;clear BR BS iy ix AC D9;obtain⟨⟨y0,y1,y2,y3,y4⟩,A4,B1⟩:=AO.o M (Q1.refl _ _);obtain⟨⟨x0,x1,x2,x3,x4⟩,DE,DF⟩:=B0.o M (Q1.refl _ _);obtain⟨bd,od,rfl,A1⟩:=Rd.elem A4 0 BN;obtain⟨d0,BV⟩:=At.int A1;simp only[Ty.sz,Cc,Cw,Cg]at d0 y0 y1 y2 y3 y4 x0 x1 x2 x3 x4;have DG:=qh BV;clear A1 BV DE DF;have DH:(0:Int)<J:=by omega
 have AQ:Hd (Vx (d,f,L,n,B) (U,C,p,J,H)=if U==10 then J.getD L.toNat 0 else if L==0 then J.getD 1 0 else J.getD 0 0):=by show _=_;rfl
 have BW:=D (J[0]=J.getD 0 0) (by simp[List.getD_eq_getElem?_getD,BN]);go_upto_if 19 with(fail)
 go_cut [7] (λu DI=>u=I Z (Vx (d,f,L,n,B) (U,C,p,J,H))/\Hd (Qyn (Vx (d,f,L,n,B) (U,C,p,J,H)))/\M=DI)
 case first=>
  by_cases q:U=10
  ·subst q
   obtain⟨e1,e2⟩:=hd rfl;have BX:L.toNat<J:=by omega
   obtain⟨DJ,DK,AE,A1⟩:=Rd.elem A4 L.toNat BX;simp only[Bt,Cq,and_true]at AE;obtain⟨rfl,rfl⟩:=AE;obtain⟨dv,AF⟩:=At.int A1;simp only[Ty.sz,Cc]at dv;have HI:=qh AF;have HG:=D (Vx (d,f,L,n,B) (10,C,p,J,H)=J[L.toNat]) (by rw[AQ.o];simp[List.getD_eq_getElem?_getD,BX]);clear A1 AF A4 B1 hd AM;go_wp2_with fail
   go_meet;exact⟨by rw[HG.o],(show Qyn _ by rw[HG.o];exact HI.o),rfl⟩
  have qb:(U==10)=false:=by simpa using q
  have h2:=AM q;obtain⟨DJ,DK,AE,A1⟩:=Rd.elem A4 1 h2;simp only[Bt,Cq,and_true]at AE;obtain⟨rfl,rfl⟩:=AE;obtain⟨dv,AF⟩:=At.int A1;simp only[Ty.sz,Cc]at dv;have HI:=qh AF;have FM:(1:Int)<J:=by omega
  have HQ:=qh qb;clear A1 AF A4 B1 hd AM q;by_cases z:L=0
  ·subst z
   have HG:=D (Vx (d,f,0,n,B) (U,C,p,J,H)=J[1]) (by rw[AQ.o,HQ.o];show J.getD 1 0=_;rw[Ab,Ad (by omega)];rfl);go_wp2_with fail
   go_meet;exact⟨by rw[HG.o],(show Qyn _ by rw[HG.o];exact HI.o),rfl⟩
  have zb:(L==0)=false:=by simpa using z
  have HZ:=qh zb;have HG:=D (Vx (d,f,L,n,B) (U,C,p,J,H)=J[0]) (by rw[AQ.o,HQ.o,HZ.o,BW.o];rfl);go_wp2_with fail
  go_meet;exact⟨by rw[HG.o],(show Qyn _ by rw[HG.o];exact DG.o),rfl⟩
 obtain⟨rfl,BY,rfl⟩:=hcut;obtain⟨s,B2⟩:∃s,s=Vx (d,f,L,n,B) (U,C,p,J,H):=⟨_,rfl⟩;rw[<-B2]at BY⊢;have DL:=qh B2.symm;clear B2 AQ BW d0 A4 hd AM DH;have DM:=D (Ow Q4 M.drew [I Z 12,I Z C,I Z s,jN,jN] (12,C,s,[],[]) []) (Ow.mkAgent (by unfold Qyn;omega) BT.o.2.1 BY (Ow.nil _) (Ow.nil _));have BZ:=D (∀q∈([]:List Nat),M<=q/\q∉g::S.all) (by simp);have C0:=D (∀V,Q1 (λc=>c=g\/c∈S.all) M V->V.cell? ⟨w+1,1,N⟩=R (I Z C)) (λV O=>(AO.o V O).1.2.1);go_wp2_with fail
 go_region_held3(λV=>V.cell? ⟨w+1,1,N⟩=R (I Z C))
  (first|(with_reducible first|exact C0.o _ A2.o.fr|exact C0.o _ BU.o.drew.fr)|fail)
  ((go_at_call 273;(with_reducible refine(Q60 BU.o.drew 12 C s N N 0 0 0 0 (12,C,s,[],[]) [] DM.o Gq (λq Y=>(BZ.o q Y).2) (λq Y=>(BZ.o q Y).1)).mono ?_);rintro e w1 ⟨rfl,hs,O⟩;have A2:=qh hs;clear hs O))
 have AR:=D (Q4j m (d,f,L,n,B) (U,C,p,J,H)=if B.length=0 then(Qi m (12,C,s,[],[]),[(H.getD 0 (0,0),((1:Int),(c:Int)))])else(Ya ((Bz (B.length-1)).foldl (Q67 (Q1q (Qi m (12,C,s,[],[])) C B (H.getD 0 (0,0)) B).2) (Q1q (Qi m (12,C,s,[],[])) C B (H.getD 0 (0,0)) B).1) c ((Q1q (Qi m (12,C,s,[],[])) C B (H.getD 0 (0,0)) B).2.getD 0 0),[])) (by unfold Q4j;have e1:=(AN.o.first Z6).1;have e2:Vx (d,f,L,n,B) (U,C,p,J,H)=s:=DL.o;simp only[e2,e1,aL,aW]);have C1:=D (c∉l/\c<(mC (Qi m (12,C,s,[],[]))).length) (⟨(Ar.1 (Jm.nodup AN.o.free)).1,by rw[Qg];exact(AN.o.first Z6).2.1⟩);have B3:=D ((mX (Qi m (12,C,s,[],[]))).length<=1000000/\(mC (Qi m (12,C,s,[],[]))).length<=1000000) (⟨hX,by rw[Qg];exact hC⟩);have C2:=D (Qyn (c:Int)) (by have h1:=C1.o.2;have h2:=B3.o.2;unfold Qyn;omega);generalize Qi m (12,C,s,[],[])=m1 at *
 generalize S.put (c:Int) []=S1 at *
 obtain⟨⟨-,-,-,-,x4⟩,-,-⟩:=B0.o _ A2.o.fr;have C3:=(AO.o _ A2.o.fr).2.2;obtain⟨by_,r,C4,hE⟩:=Rd.elem C3 0 AB;obtain⟨-,-,C5,C6⟩:=At.word (t:=H[0].1) (a:=H[0].2) hE;have AS:=qh (And.intro C5 C6);have HG:=qh (Q9t AB);have AT:=D (∀V,Q1 (λc=>c=g\/c∈S.all) M V->(V,w.heap.size+1,1,I Z C)/\(V,w.heap.size+1,4,A (R ⟨by_,r,N⟩) H AD)/\(V,by_,r,I Z H[0].1)/\(V,by_,r+1,I Z H[0].2)) (λV O=>by obtain⟨⟨-,k1,-,-,k4⟩,-,DN⟩:=AO.o V O;obtain⟨b2,o2,B4,DO⟩:=Rd.elem DN 0 AB;rw[C4]at B4 k4;simp only[Bt,Cq,and_true]at B4;obtain⟨rfl,rfl⟩:=B4;have:=At.word (t:=H[0].1) (a:=H[0].2) DO;simp only[Ty.sz,Bj,Cg,Dm,Cw]at this k4 k1;exact⟨k1,k4,this.1,this.2.1⟩);generalize H[0].1=wt at *
 generalize H[0].2=wa at *
 simp only[Cg]at x4;have FN:(0:Int)<H:=by omega
 clear C4 hE C5 C6 C3 B1 y0 y1 y2 y3 y4 x0 x1 x2 x3;by_cases A5:B.length=0
 ·have DP:((B:Int)==0)=true:=by simp[A5]
  have AG:=D (Q4j m (d,f,L,n,B) (U,C,p,J,H)=(m1,[((wt,wa),((1:Int),(c:Int)))])) (by rw[AR.o,if_pos A5,HG.o]);clear A5;go_upto_region 8 with fail
  have DQ:=D (∀V,Bp w1 w1 V->(V,w.heap.size+1,4,A (R ⟨by_,r,N⟩) H AD)/\(V,by_,r,I Z wt)/\(V,by_,r+1,I Z wa)) (λV hb=>(AT.o V (A2.o.below hb).fr).2);have C7:=D (Bp w1 w1 w1.drew) ((Ai _ _).drew)
  go_region_held3(λV=>(V,w.heap.size+1,4,A (R ⟨by_,r,N⟩) H AD)/\(V,by_,r,I Z wt)/\(V,by_,r+1,I Z wa))
   (((with_reducible refine DQ.o _ ?_);(first|(with_reducible first|exact A6.o|exact A6.o.alloc A6.o.size _|exact C7.o)|fail)))
   ((go_at_call 277;(with_reducible refine jR (Q0g _ (c:Int)) λw5 hb=> ?_);have A6:=qh (Q0 C7 hb);clear hb))
  go_wp2_with fail
  go_ret;have DR:=A2.o.mem.lt;have FO:=A6.o.size;have FP:=A2.o.fr.size;refine⟨_,S1,l,rfl, ?_, ?_⟩
  ·rw[AG.o];exact Qn.trans AP (A2.o.below (A6.o.alloc A6.o.size _))
  rw[AG.o];refine⟨[w5.heap.size],Ql8 (Bg w5 _) AS.o.1 AS.o.2 (by unfold Qyn;omega) C2,by simp,λq Y=> ?_⟩;obtain rfl:q=w5.heap.size:=by simpa using Y
  exact⟨by omega,λP=>by have:=DR _ (Aa _ P);omega⟩
 have DP:((B:Int)==0)=false:=by rw[beq_eq_false_iff_ne];omega
 rw[HG.o]at AR;have AG:=D (Q4j m (d,f,L,n,B) (U,C,p,J,H)=(Ya ((Bz (B.length-1)).foldl (Q67 (Q1q m1 C B (wt,wa) B).2) (Q1q m1 C B (wt,wa) B).1) c ((Q1q m1 C B (wt,wa) B).2.getD 0 0),[])) (by rw[AR.o,if_neg A5]);have DS:=qh A5;obtain⟨ii,DT,DU,DV,DW⟩:=info_parts Q2v;clear AR A5;go_wp2_with fail
 go_loopw [9,56] (λu i wr=>∃(j:Nat) (S':MS) (l':List Nat),j<=B/\i=I Z j/\Hd (Qn M S g 0 wr (Q1q m1 C B (wt,wa) j).1 S' l')/\Hd (Je .int M S' wr u (Q1q m1 C B (wt,wa) j).2)/\Hd (B.length<=l'.length+j)/\Hd (Qar (Q1q m1 C B (wt,wa) j).1 l' (Q1q m1 C B (wt,wa) j).2)/\Hd (c∉l')) (λ_ i _=>B.length-(By i).toNat);case atStart=>exact⟨0,S1,l,Ak _,rfl,A2.o,Je.empty,D7.o,(λa ha=>by simp[Q1q]at ha),C1.o.1⟩
 obtain⟨j,S',l',hj,rfl,HS,HA,C8,AU,DX⟩:=hrel;have AV:=qh (Qac m1 C B (wt,wa) j);have C9:=qh (Qof m1 C B (wt,wa) j);have FQ:=HS.o.fr.size;by_cases CA:j<B
 ·obtain⟨a,l2,rfl⟩:∃a l2,l'=a::l2:=by
   match l',(show 0<l'.length by have:=C8.o;omega)with
   |a::l2,_=>exact⟨a,l2,rfl⟩
  have B5:=D (Q1q m1 C B (wt,wa) (j+1)=(Qi (Q1q m1 C B (wt,wa) j).1 (3,C,0,[],[B.getD j (0,0),(wt,wa)]),(Q1q m1 C B (wt,wa) j).2++ [mF (Q1q m1 C B (wt,wa) j).1])) (rfl);generalize Q1q m1 C B (wt,wa) j=Fj at *
  obtain⟨mj,aj⟩:=Fj;have HS:=D (Qn M S g 0 wr mj S' (a::l2)) (HS.o);obtain⟨pa,ca,rfl⟩:=HA.o.form;obtain⟨Fa,CB⟩:=HA.o;have x:=qh CB;have AH:=D (mF mj=(a:Int)/\a<(mC mj).length) (⟨(HS.o.first Z6).1,(HS.o.first Z6).2.1⟩);have DY:=D (Qyn (a:Int)) (by have h1:=AH.o.2;have h2:(mC mj).length=(mC m1):=C9.o;have:=B3.o.2;unfold Qyn;omega);obtain⟨bx,ox,DZ,hE⟩:=Rd.elem (B0.o _ HS.o.fr).2.2 j CA;obtain⟨f0,f1,CC,CD⟩:=At.word (t:=B[j].1) (a:=B[j].2) hE;have E0:=qh (Q9t CA);generalize B[j].1=xt at *
  generalize B[j].2=xa at *
  subst DZ;simp only[Ty.sz,Bj]at f0 f1;have CE:=qh (And.intro CC CD);have E1:(0:Int)<=j:=by omega
  have FR:(j:Int)<B:=by omega
  have B6:=D (∀G:List Nat,∀q∈(S'.put (a:Int) G).all,q∈G\/q∈S'.all) (λG q P=>Y0 P);have CF:=qh HS.o.mem.lt;have B7:=D (S.cb<w) (AY.o _ (Aa _ Ae));clear CB hE CC CD;go_upto_region 13 with fail
  refine Qp λK B8=> ?_;have CG:=D (wr,K) (by rw[B8];go_grown);have B9:K.heap[wr.heap.size]?=R (.cells #[I Z xt,I Z xa] 40 (0,0)):=by rw[B8];exact Bg wr _
  obtain⟨⟨k0,k1⟩,-⟩:=Zj B9;have CH:wr.heap.size<K:=Zl B9;have CI:=qh (HS.o.below CG);have CJ:=AT.o K CI.o.fr;have E2:=D (∀V,Q1 (λc=>c=g\/c=S.cb\/c∈Fa) K V->((V,w.heap.size+1,1,I Z C)/\(V,w.heap.size+1,4,A (R ⟨by_,r,N⟩) H AD)/\(V,by_,r,I Z wt)/\(V,by_,r+1,I Z wa))/\(V,wr.heap.size,0,I Z xt)/\(V,wr.heap.size,1,I Z xa)) (λV O=>by
   have CK:¬(wr=g\/wr=S.cb\/wr.heap.size∈Fa):=by
    rintro(e|e|e)
    ·omega
    ·have:=B7.o;omega
    have:=x.o.1.lt _ e;omega
   refine⟨?_,(O.cell CH CK _).trans k0,(O.cell CH CK _).trans k1⟩;obtain⟨z1,z2,z3,z4⟩:=CJ;have CL:¬(w.heap.size+1=g\/w.heap.size+1=S.cb\/w.heap.size+1∈Fa):=by
    rintro(e|e|e)
    ·omega
    ·have:=B7.o;omega
    have:=(x.o.2.2 _ e).1;omega
   have FT:by_<M:=Ac M ⟨by_,r,N⟩ (AT.o M (Q1.refl _ _)).2.2.1;have AI:¬(by_=g\/by_=S.cb\/by_∈Fa):=by
    obtain⟨us,h1,h2,h3,h4⟩:=BP.o;obtain⟨FU,FV,FW,FX,Gd,Gw,rfl,rfl,FY,E3,i1,i2,i3⟩:=h3.agent;have e4:=(AT.o M (Q1.refl _ _)).2.1;have e5:=(Q5v h2).2.2.2.2;simp only[Cg]at e5;rw[e4]at e5;simp only[Bt,Value.slice.injEq]at e5;have P:=E3.block0 e5.1.symm (λe=>by have h7:H=[]:=e;rw[h7]at AB;simp at AB);have CM:=BQ.o by_ (Aa _ (Af _ P));rintro(e|e|e)
    ·exact CM (e▸Ae)
    ·exact CM (Aa _ (Q20 e))
    have:=(x.o.2.2 _ e).1;omega
   exact⟨Qo O z1 CL,Qo O z2 CL,Qo O z3 AI,Qo O z4 AI⟩)
  have A7:=D (Bp K K ((K.alloc (.cells #[I Z xt,I Z xa,I Z wt,I Z wa] 40)).drew)) (((Ai _ _).alloc (Aj _) _).drew);have E4:=qh (CI.o.below A7);have E5:=D (Ow Q4 ((K.alloc (.cells #[I Z xt,I Z xa,I Z wt,I Z wa] 40)).drew) [I Z 3,I Z C,(),jN,A (R ⟨K,0,N⟩) 2 2] (3,C,0,[],[(xt,xa),(wt,wa)]) ([]++ [K.heap.size])) (Ow.mkAgent (by unfold Qyn;omega) BT.o.2.1 (by unfold Qyn;omega) (Ow.nil _) (Ql0 (T:=40) (Bg K _) CE.o.1 CE.o.2 AS.o.1 AS.o.2));have CN:=D (∀q∈([]++ [K.heap.size]:List Nat),M<=q/\q∉g::S'.all) (λq Y=>by
   obtain rfl:q=K.heap.size:=by simpa using Y
   exact⟨by omega,λP=>by have:=CF.o _ P;omega⟩)
  have E6:=D (([]++ [K.heap.size]:List Nat).Nodup) (by simp);have E7:=D (Q1 (λc=>c=g\/c=S.cb\/c∈Fa) K K.drew) ((Q1.refl _ _).drew);have CO:=D (Q1 (λc=>c=g\/c=S.cb\/c∈Fa) K ((K.alloc (.cells #[I Z xt,I Z xa,I Z wt,I Z wa] 40)).drew)) (((Q1.refl _ _).alloc _).drew);clear B8 B9 f0 f1 x4 CJ
  go_region_held3(λV=>((V,w.heap.size+1,1,I Z C)/\(V,w.heap.size+1,4,A (R ⟨by_,r,N⟩) H AD)/\(V,by_,r,I Z wt)/\(V,by_,r+1,I Z wa))/\(V,wr.heap.size,0,I Z xt)/\(V,wr.heap.size,1,I Z xa))
   (((with_reducible refine E2.o _ ?_);(first|(with_reducible first|exact E8.o|exact CP.o|exact CQ.o|exact CO.o|exact E7.o)|fail)))
   (first
    |((go_at_call 273;(with_reducible refine(Q60 E4 3 C 0 N (R ⟨K,0,N⟩) 0 0 2 2 (3,C,0,[],[(xt,xa),(wt,wa)]) ([]++ [K.heap.size]) E5 E6 (λq Y=>(CN.o q Y).2) (λq Y=>(CN.o q Y).1)).mono ?_);rintro e' w8 ⟨rfl,hs,O⟩;have FZ:=qh hs;have CR:=qh O;have CQ:=qh (CO.o.trans (O.mono λc W=>W.elim .inl λh=> .inr (.inl h)));have E9:=qh (hs.below (show Bp w8 w8 (w8.alloc (.cells #[I Z a] 2))from(Ai _ _).alloc (Aj _) _));have CP:=qh (CQ.o.alloc (.cells #[I Z a] 2));have G0:=CR.o.size;clear hs O))
    |((refine Yk _ rfl (.tmp 60) (.tmp 74) 34 rfl (e:=.int) 2 ii _ 8 underlying34 DT DU DV DW rfl (by decide) (v:=A pa aj ca) (xs:=aj) (y:=(a:Int)) (vs:=[I Z a]) (F:=Fa) w8 1 rfl rfl ((x.o.1.frame (Q1.trans (Ay CG) (Q1.trans (Ay A7) CR)) (λq Y=>⟨x.o.1.lt q Y,λe'=>by have h1:=(x.o.2.2 q Y).1;have:=B7.o;omega⟩)).kept λq Y=>Az _ _ _ (by have h1:=x.o.1.lt q Y;have h2:=A7.o.size;omega)) x.o.2.1 ⟨rfl,DY.o,rfl⟩ (Qio (Q6 (Bg w8 _) rfl)) (by simp[Value.oneCell']) (by have h9:aj=j:=AV.o;omega) ?_;intro G1 G2 G3 EA CS AI CT BA;have EB:=qh CS;have EC:=qh AI;have ED:=qh CT;have EE:=qh (E9.o.other BA (λc W=>⟨λP=>(Aq.1 P).elim (λe'=>by have:=(x.o.2.2 c W).1;omega) (λh=>(B6.o _ c h).elim (λh=>by have h1:=x.o.1.lt c W;have h2:c=K.heap.size:=(by simpa using h);omega) (x.o.2.2 c W).2),(x.o.2.2 c W).1⟩));have E8:=qh (CP.o.trans (BA.mono λc W=> .inr (.inr W)));clear CS AI CT BA))
    |fail)
  all_goals
   have EF:=Jm.nodup HS.o.free;go_wp2_with fail
   go_roundw;case rel=>exact⟨j+1,S'.put (a:Int) ([]++ [K.heap.size]),l2,by omega,by go_num,(show Qn _ _ _ _ _ _ _ _ by rw[B5.o,E0.o];exact EE.o),(show Je _ _ _ _ _ _ by
    rw[B5.o];show Je .int _ _ _ _ (aj++ [mF mj]);rw[AH.o.1];exact⟨EA,EB.o,EC.o,λq Y=>(ED.o q Y).elim (λh=>⟨(x.o.2.2 q h).1,λP=>(B6.o _ q P).elim (λh'=>by have h1:=x.o.1.lt q h;have h2:q=K.heap.size:=(by simpa using h');omega) (x.o.2.2 q h).2⟩) (λe'=>⟨by rw[e'];have:=A7.o.size;simp;omega,λP=>(B6.o _ q P).elim (λh'=>by have h2:q=K.heap.size:=(by simpa using h');have h3:=A7.o.size;have h4:q=w8.heap.size+1:=(by simpa using e');have h5:K.heap.size<((K.alloc (.cells #[I Z xt,I Z xa,I Z wt,I Z wa] 40)).drew).heap.size:=(by simp[World.drew]);omega) (λh'=>by have h1:=CF.o q (Aa _ h');have h3:=A7.o.size;have h4:q=w8.heap.size+1:=(by simpa using e');omega)⟩)⟩),(show _<=_ by have:=C8.o;simp only[List.length_cons]at this;omega),(show Qar _ _ _ by
    rw[B5.o];show Qar (Qi mj _) l2 (aj++ [mF mj]);rw[AH.o.1];exact AU.o.take AH.o.1 AH.o.2 (Ar.1 EF).1 _ rfl),(show ¬_ from λP=>DX.o (Aa _ P))⟩
   simp[By];omega
 have CU:j=B:=by omega
 have EG:=qh CU;rw[EG.o]at HS HA AU AV C9;have AZ:=qh (Qqd m1 C B (wt,wa) B);generalize Q1q m1 C B (wt,wa) B.length=Fn at *
 obtain⟨mA,E⟩:=Fn;have BB:=D (E.length=B) (AV.o);obtain⟨pa,ca,rfl⟩:=HA.o.form;have EH:0<E.length:=by have h1:=BB.o;have h2:=DS.o;omega
 have G4:E.length<=1000:=by have h1:=BB.o;omega
 have G5:IntKind.i64.wrap ((E:Int)-1)=(E:Int)-1:=by simp only[IntKind.wrap_i64];omega
 have EI:=D (Qn M S g 0 wr mA S' l') (HS.o);have EJ:=D (Je .int M S' wr (A pa E ca) E) (HA.o);have EK:=D (Qar mA l' E) (AU.o);have G6:¬((j:Int)<B):=by omega
 clear CU HS HA AU AV;go_wp2_with fail
 go_loopw [12,80] (λ_ i wq=>∃q:Nat,q+1<=E.length/\i=I Z q/\Hd (Qn M S g 0 wq ((Bz q).foldl (Q67 E) mA) S' l')/\Hd (Je .int M S' wq (A pa E ca) E)) (λ_ i _=>E.length-(By i).toNat);case atStart=>exact⟨0,EH,rfl,EI.o,EJ.o⟩
 rename World=>wq
 obtain⟨q,Y,rfl,A8,A9⟩:=hrel;have EL:=qh (Qdg E (Bz q) mA EK);have EM:=D ((Bz (q+1)).foldl (Q67 E) mA=Q67 E ((Bz q).foldl (Q67 E) mA) q) (by rw[List.range_succ,List.foldl_append];rfl);have EN:=D (mX ((Bz q).foldl (Q67 E) mA)=mX mA) (Qe0 _ _ _);have G7:=A8.o.fr.size;by_cases CV:q+1<E.length
 ·generalize (Bz q).foldl (Q67 E) mA=mq at *
  have AJ:q<E.length:=by omega
  obtain⟨aq,BC,EO,EP,BD⟩:=EL.o E[q] (As AJ);obtain⟨A0,A3,AA,hE⟩:=Rd.elem A9.o.rd q AJ;obtain⟨z0,AK⟩:=At.int hE;obtain⟨G8,G9,BE,CW⟩:=Rd.elem A9.o.rd (q+1) CV;rw[AA]at BE;simp only[Bt,Cq,and_true]at BE;obtain⟨rfl,rfl⟩:=BE;obtain⟨z1,CX⟩:=At.int CW;have EQ:=D (E.getD q 0=(aq:Int)) (by rw[Ab,Ad AJ,<-BC];rfl);have ER:=D (E.getD (q+1) 0=E[q+1]) (by rw[Ab,Ad CV];rfl);rw[BC]at z0 AK;generalize E[q+1]=zn at *
  simp only[Ty.sz,Cc]at z0 z1;have AL:=D (A0∉S'.all) (by obtain⟨Fq,oq,ES,rq⟩:=A9.o;have P:=oq.block0 AA (by intro e;rw[e]at AJ;simp at AJ);exact(rq _ P).2);subst AA;obtain⟨bw,ow,cw,w4,⟨AW,ET,EU⟩,w5,BF⟩:=A8.o.wordB (i:=(aq:Int)) (k:=1) (by rw[Bq];exact EO) (by rw[Bq];exact EP) (by unfold Q7;rw[Bq,BD];decide);have CY:(aW (Q7 (mC mq) (aq:Int))).length=2:=by unfold Q7;rw[Bq];exact BD
  rw[CY]at w4 w5;simp only[Bq,Ia]at w4 BF;have EV:=qh BF;obtain⟨_,_,c0,-,-,-,-,-,-,-,-⟩:=A8.o.mem.head;have BG:=qh CX;have EW:=A8.o.mem.cells.bound;unfold Bu at EW;have EX:=D (∀V,Q1 (λc=>c=bw) wq V->(V,g,0,A (R ⟨S'.cb,S'.o,N⟩) (mC mq) S'.cap)/\(V,A0,A3+q,I Z aq)/\(V,A0,A3+(q+1),I Z zn)/\(V,S'.cb,S'.o+aq * 5+4,A (R ⟨bw,ow,N⟩) 2 cw)) (λV O=>⟨Qo O c0 (λe=>ET e.symm),Qo O z0 (λe=>AL.o (e▸AW)),Qo O z1 (λe=>AL.o (e▸AW)),Qo O w4 (λe=>EU e.symm)⟩);have EY:=D (Bp wq wq wq.drew) ((Ai _ _).drew);have EZ:=D (bw<wq) (A8.o.mem.lt _ (Aa _ AW));have F0:(q:Int)<(E:Int)-1:=by omega
  have E1:(0:Int)<=q:=by omega
  have GA:(q:Int)<E:=by omega
  have GB:(q:Int)+1<E.length:=by omega
  have GC:(0:Int)<=(q:Int)+1:=by omega
  have GD:((q:Int)+1).toNat=q+1:=by omega
  have GE:IntKind.i64.wrap ((q:Int)+1)=(q:Int)+1:=by simp only[IntKind.wrap_i64];omega
  have GF:(0:Int)<=aq:=by omega
  have GG:(aq:Int)<(mC mq):=by omega
  have GH:(1:Int)<2:=by omega
  clear hE CW BF AK CX BD CY BC c0 z0 z1 w4;go_upto_region 18 with fail
  go_region_held3(λV=>(V,g,0,A (R ⟨S'.cb,S'.o,N⟩) (mC mq) S'.cap)/\(V,A0,A3+q,I Z aq)/\(V,A0,A3+(q+1),I Z zn)/\(V,S'.cb,S'.o+aq * 5+4,A (R ⟨bw,ow,N⟩) 2 cw))
   (((with_reducible refine EX.o _ ?_);(repeat(first|(with_reducible first|exact CZ.o|exact Q1.refl _ _)|with_reducible apply Q1.drew|with_reducible refine Q23 ?_))))
   ((go_at_call 277;(with_reducible refine jR (Q0g _ zn) λw9 hb=> ?_);have BH:=qh (Q0 EY hb);have CZ:=D (Q1 (λc=>c=bw) wq w9) (Ay BH);obtain⟨⟨u0,GI⟩,⟨u1,GJ⟩,GK,D0⟩:=EV.o w9 BH;have F1:=qh D0;have GL:bw<w9:=Ap EZ BH.o.size;clear hb D0))
  all_goals
   go_wp2_with fail
   go_roundw;case rel=>
    refine⟨q+1,by omega,by go_num,(show Qn _ _ _ _ _ _ _ _ from ?_),(show Je _ _ _ _ _ _ from ?_)⟩
    ·rw[EM.o]
     unfold Q67 Qm;rw[EQ.o,ER.o];exact F1.o 1 zn (by unfold Qyn;omega) BG.o
    exact Je.step (X:=λc=>c=bw) A9 (Q23 (Q23 CZ)) (λc W=> .inr (by rw[W];exact AW)) (λb hb=> .inl hb)
   simp[By];omega
 have D1:q=B.length-1:=by have:=BB.o;omega
 have F2:=qh D1;clear D1;have AX:0<E.length:=by omega
 obtain⟨A0,A3,AA,hE⟩:=Rd.elem A9.o.rd 0 AX;obtain⟨z0,AK⟩:=At.int hE;have AL:=D (A0∉S'.all/\M<=A0) (by obtain⟨Fq,oq,ES,rq⟩:=A9.o;have P:=oq.block0 AA (by intro e;rw[e]at AX;simp at AX);exact⟨(rq _ P).2,(rq _ P).1⟩);subst AA;have F3:=D (E.getD 0 0=E[0]) (by rw[Ab,Ad AX];rfl);generalize E[0]=za at *
 simp only[Ty.sz,Cc,Cw]at z0;have BG:=qh AK;have F4:=D ((mX ((Bz q).foldl (Q67 E) mA)).length<=1000000) (by rw[EN.o];have h1:mX mA=mX m1:=AZ.o;rw[h1];exact B3.o.1);have D2:=D (∀V,Q1 (λc=>c=g\/c∈S'.all) wq V->V.cell? ⟨A0,A3,N⟩=R (I Z za)) (λV O=>Qo O z0 (λe=>e.elim (λe=>by have:=AL.o.2;omega) AL.o.1));have D3:=D (Q1 (λc=>c=g\/c∈S'.all) wq wq.drew) ((Q1.refl _ _).drew);have F5:=qh A8.o.drew;have GM:(0:Int)<E:=by omega
 have F0:¬((q:Int)<(E:Int)-1):=by omega
 clear hE AK z0;go_upto_region 20 with fail
 go_region_held3(λV=>V.cell? ⟨A0,A3,N⟩=R (I Z za))
  (first|(with_reducible first|exact D2.o _ F6.o|exact D2.o _ D3.o)|fail)
  ((go_at_call 279;(with_reducible refine(Qft F5 (c:Int) za C2 BG F4).mono ?_);rintro e GN ⟨rfl,F7,hs,F8,O⟩;have F9:=qh hs;have F6:=qh (D3.o.trans (O.mono λc W=>W.imp id λh=>Aa _ (Af _ h)));clear hs F8 O))
 go_wp2_with fail
 go_ret;refine⟨_,F7,l',rfl, ?_, ?_⟩
 ·rw[AG.o]
  show Qn _ _ _ _ _ (Ya ((Bz (B.length-1)).foldl (Q67 E) mA) c (E.getD 0 0)) _ _;rw[F3.o,<-F2.o];exact Qn.trans AP F9.o
 rw[AG.o];exact Je.empty
def Qk1:(prog.info? 40).map (λi=>(i.zero,i.size,i.bytes))=R (R (Dl #[(),()]),2,16):=by kernel_rfl
def Q83(w)(n:Nat)(H:n<=1000000000):(Instr.makeSlice 121 (n:Int) (n:Int)).run prog w=.ok (A (R (w,0)) n n) (w.alloc (.cells (Ds (Dl #[(),()]).cells (n * 2)) 40)):=by
 obtain⟨B,C,E,F,G⟩:=info_parts Qk1;have:=run_make (P:=prog) w 121 40 B (Dl #[(),()]) underlying121 C E Z Z (n:Int) (n:Int) (by omega) (by omega) (by rw[G];omega) (by omega);rw[F]at this;simpa using this
def Qq2(t w g m F S a l)(h:Qn t F g 0 w m S (a::l))(H B J)(n:Nat)(K L M)(C:List Int)(Y)(qy:Option Addr)(d)(ny ey:Nat)(h3:w.cell? (H,0)=R (.pointer (R (g,0))))(h7:w.cell? (J,0)=R (I Z n))(h5:(w,B,0,K)/\(w,B,1,L)/\(w,B,2,M)/\(w,B,3,A Y C d))(A1:Rd (.slice .int) w [A Y C d] C)(hi:Qyn K/\Qyn L/\Qyn M)(A2:C.length<=100000000)(O:n<=1000)(T:∀b,b=H\/b=B\/b=J->b≠g/\b≠F.cb):
  Calls prog 281 #[(H,0),(B,0),(J,0)] w λe w'=>e=.returned a/\∃G,Qn t F g 0 w' (Qi m (K,L,M,C,Jz n)) (S.put a G) l/\(∀q∈G,w<=q)/\Q1 (λc=>c=g\/c=F.cb) w w':=by
 have A3:=qh h;have HI:=qh hi;obtain⟨k0,k1,k2,k3⟩:=h5;have u:=D (Bp w w w.drew) ((Ai _ _).drew);have A4:=D (∀V,Bp w w V->Rd (.slice .int) V [A Y C d] C) (λV P=>A1.kb P);have AF:=λW=>Q83 W n (by omega);have A5:=D (∀W:World,Qxu Q5 40 W (W.alloc (.cells (Ds (Dl #[(),()]).cells (n * 2)) 40)) (A (R (W,0)) n n) (Jz n)) (λW=>Qau W n (by omega));generalize hcur:Ds (Dl #[(),()]).cells (n * 2)=cur at *
 have A8:=D (∀V,Q1 (λc=>c=g\/c=F.cb) w V->V.cell? (H,0)=R (.pointer (R (g,0)))/\(V,J,0,n)/\(V,B,0,K)/\(V,B,1,L)/\(V,B,2,M)/\(V,B,3,A Y C d)) (λV E=>by have n3:¬(H=g\/H=F.cb):=λe=>e.elim (T H (.inl rfl)).1 (T H (.inl rfl)).2;have p:¬(B=g\/B=F.cb):=λe=>e.elim (T B (.inr (.inl rfl))).1 (T B (.inr (.inl rfl))).2;have n7:¬(J=g\/J=F.cb):=λe=>e.elim (T J (.inr (.inr rfl))).1 (T J (.inr (.inr rfl))).2;exact⟨Qo E h3 n3,Qo E h7 n7,Qo E k0 p,Qo E k1 p,Qo E k2 p,Qo E k3 p⟩);have AG:=D (Q1 (λc=>c=g\/c=F.cb) w w.drew) ((Q1.refl _ _).drew);have A9:=qh h.mem.lt;have AA:=h.fr.size;have v:=D (Bp w w ((w.alloc (.cells cur 40)).drew)) (((Ai _ _).alloc (Aj _) _).drew);have AH:(0:Int)<=n:=by omega
 have A6:=D (∀G:List Nat,(∀q∈G,w<=q)->(∀q∈G,q∉g::S.all)/\∀q∈G,t<=q) (λG hG=>⟨λq U hm=>by have h1:=hG q U;have h2:=A9.o q hm;omega,λq U=>Au AA (hG q U)⟩);clear h hi A1 T hcur;go_enter func281,ntmps281;go_upto_region 1 with fail
 go_region_held3(λV=>V.cell? (H,0)=R (.pointer (R (g,0)))/\(V,J,0,n)/\(V,B,0,K)/\(V,B,1,L)/\(V,B,2,M)/\(V,B,3,A Y C d))
  (((with_reducible refine A8.o _ ?_);(repeat(first|(with_reducible first|exact x.o|exact r.o|exact Q1.refl _ _)|with_reducible apply Q1.drew|with_reducible apply Q1.alloc))))
  (first
   |((go_at_call 273;(with_reducible refine(Q60 AB K L M y (R (w1,0)) C z n n (K,L,M,C,Jz n) G AC A0 f.o.1 f.o.2).mono ?_);rintro e wt ⟨rfl,i,E⟩;have A7:=qh i;have x:=qh ((r.o.alloc (.cells cur 40)).trans E);clear i E))
   |((go_at_call 273;(with_reducible refine(Q60 AD K L M y (R (w,0)) C z n n (K,L,M,C,Jz n) G AE A0 f.o.1 f.o.2).mono ?_);rintro e wt ⟨rfl,i,E⟩;have A7:=qh i;have x:=qh (r.o.trans E);clear i E))
   |((go_at_call 175;(with_reducible refine(Q0e w.drew _ C (A4.o _ u.o) A2).mono ?_);rintro e w1 ⟨v1,rfl,O,P⟩;obtain⟨y,z,rfl⟩:=V6 O;have X:=qh (Q0 u.o P);obtain⟨G,j,k,o⟩:=Qy7.agentA HI (O.lo (show w.heap.size<=w.drew from u.o.size)) ((A5.o w1).new rfl) ((Ai _ _).alloc (Aj _) _) X.o.size;have AC:=qh j;have A0:=qh k;have s:=qh (λq (U:q∈G)=>(o q U).1);have f:=qh (A6.o G s.o);have AB:=qh ((A3.o.below X).below (show Bp w1 w1 (w1.alloc (.cells cur 40))from(Ai _ _).alloc (Aj _) _));have r:=D (Q1 (λc=>c=g\/c=F.cb) w w1) (Ay X);clear O P j k o))
   |((go_at_call 175;(with_reducible refine(Q0e ((w.alloc (.cells cur 40)).drew) _ C (A4.o _ v.o) A2).mono ?_);rintro e w1 ⟨v1,rfl,O,P⟩;obtain⟨y,z,rfl⟩:=V6 O;have X:=qh (Q0 v.o P);obtain⟨G,j,k,o⟩:=Qy7.agentB HI O (((A5.o w).new rfl).kept (w':=(w.alloc (.cells cur 40)).drew) (Ai _ _).drew) P v.o.size;have AE:=qh j;have A0:=qh k;have s:=qh (λq (U:q∈G)=>(o q U).1);have f:=qh (A6.o G s.o);have AD:=qh (A3.o.below X);have r:=D (Q1 (λc=>c=g\/c=F.cb) w w1) (Ay X);clear O P j k o))
   )
 all_goals
  go_wp2
  go_ret;exact⟨rfl,G,A7.o,s.o,x.o⟩
end Go.Proofs.YtcjngpfigpglfaaGreatDoor
