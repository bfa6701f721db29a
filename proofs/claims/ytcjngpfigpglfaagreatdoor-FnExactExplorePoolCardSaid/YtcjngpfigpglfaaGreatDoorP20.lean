import Derived.Test.YtcjngpfigpglfaaGreatDoorP19
set_option maxHeartbeats 0
set_option maxRecDepth 100000
set_option linter.all false
namespace Go.Proofs.YtcjngpfigpglfaaGreatDoor
open Go.RowKit Go.Proofs.Tryz
open Go.Value renaming int->I,slice->A
open Go.IntKind renaming i64->Z
open Option renaming none->N,some->R
open OC(oC)
open OR(oR)
open JN(jN)
open And renaming intro->Cj
open Bool renaming false->Bm,true->Bn,and_eq_true->Bi
open Go renaming maxLen->Bu,World->Bh,Calls->Bv,heap_alloc_new->Bg,info_parts->Ck,madeCells->Ds,bodyPost_ret->Ce
open Go.RowKit renaming Below->Bp,intOf->By
open Int renaming toNat_natCast->Bq
open List renaming length_cons->Br,range->Bz,not_mem_nil->Cs
open Nat renaming reduceAdd->Bj,zero_mul->Dm,add_zero->Cw,le_of_lt->Fu
theorem Qkv{w g T a b c d a' b' c' d'}(h:w.heap[g]?=R (.cells #[a,b,c,d,a',b',c',d'] T))(B:(Qyn a/\Qyn b/\Qyn c/\Qyn d)/\Qyn a'/\Qyn b'/\Qyn c'/\Qyn d'):Ow (.slice Z7) w [A (R (g,0)) 2 2] [((a,b),(c,d)),((a',b'),(c',d'))] [g]:=
 ⟨_,rfl,.inr ⟨g,0,2,_,T,[[],[]],rfl,Aj _,by simp[Bu],h,by simp[Ty.sz],by simp,rfl,λi C=>by
  match i,C with
  |0,_=>exact Ow.link B.1.1 B.1.2.1 B.1.2.2.1 B.1.2.2.2
  |1,_=>exact Ow.link B.2.1 B.2.2.1 B.2.2.2.1 B.2.2.2.2⟩⟩
def Q57(n:Nat)(m:Qyb)(l:List Nat)(L:List Int):Prop:=∀a∈L,∃q:Nat,a=(q:Int)/\q<(mC m)/\q∉l/\(aW (Q9 (mC m) q))=n
theorem Q57.word{n m l L}(h:Q57 n m l L)(i k x):Q57 n (Qm m i k x) l L:=λa E=>by
 obtain⟨q,F,G,H,C⟩:=h a E;refine⟨q,F,by unfold Qm;rw[Qjq];exact G,H, ?_⟩;by_cases e:i.toNat=q
 ·have J:i.toNat<(mC m):=by omega
  have B:=Q5q m i ((aW (Q7 (mC m) i)).set k.toNat x) J;unfold Q7 at B;rw[e]at B;unfold Qm Q7;rw[e,B,List.length_set];exact C
 have:=Q72 m i (q:Int) ((aW (Q7 (mC m) i)).set k.toNat x) (by rw[Bq];exact e);unfold Q7 at this;rw[Bq]at this;unfold Qm Q7;rw[this];exact C
theorem Q9v{m}{a:Nat}(B:mF m=(a:Int))(y q):Q9 (mC (Qi m y)) q=if a=q/\q<(mC m) then y else Q9 (mC m) q:=by
 have:=Yr m y (q:Int);rw[B]at this;unfold Q7 at this;simp only[Bq]at this;exact this
theorem Q57.take{n m a l L}(h:Q57 n m (a::l) L)(E:mF m=(a:Int))(F:a<(mC m))(G:a∉l)(y)(H:(aW y)=n):Q57 n (Qi m y) l (L++ [(a:Int)]):=λz B=>by
 rcases At0.1 B with B|B
 ·obtain⟨q,J,K,C,M⟩:=h z B
  simp only[List.mem_cons,not_or]at C;refine⟨q,J,by rw[Qg];exact K,C.2, ?_⟩;rw[Q9v E y q,if_neg (λe=>C.1 e.1.symm)];exact M
 obtain rfl:z=(a:Int):=by simpa using B
 exact⟨a,rfl,by rw[Qg];exact F,G,by rw[Q9v E y a,if_pos ⟨rfl,F⟩];exact H⟩
def Q57.skip{n m a l L}(h:Q57 n m (a::l) L)(C:mF m=(a:Int))(y):Q57 n (Qi m y) l L:=λz E=>by
 obtain⟨q,F,G,B,H⟩:=h z E;simp only[List.mem_cons,not_or]at B;refine⟨q,F,by rw[Qg];exact G,B.2, ?_⟩;rw[Q9v C y q,if_neg (λe=>B.1 e.1.symm)];exact H
theorem Q57.words{n m l L}(h:Q57 n m l L){i ws}(E:∀a∈L,a.toNat≠i.toNat):Q57 n (Qa m i ws) l L:=λz B=>by
 obtain⟨q,C,F,G,H⟩:=h z B;refine⟨q,C,by rw[Qjq];exact F,G, ?_⟩;have:=Q72 m i (q:Int) ws (λe=>E z B (by rw[C,e]));unfold Q7 at this;rw[Bq]at this;rw[this];exact H
def Qjk(e:Ty)(F:List Nat)(w0:Bh)(S:MS)(w:Bh)(v:Value)(xs:List e.den):Prop:=Ow (.slice e) w [v] xs F/\F.Nodup/\∀b∈F,w0<=b/\b∉S.all
theorem Qjk.step{e F C w w' S S' v xs X}(h:Qjk e F C S w v xs)(k:Q1 X w w')(hX:∀c,X c->c<C.heap.size\/c∈S.all)(E:∀b∈S'.all,b∈S.all\/w<=b):Qjk e F C S' w' v xs:=by
 obtain⟨o,n,r⟩:=h;refine⟨o.frame k λb B=>⟨o.lt b B,λe=> ?_⟩,n,λb B=>⟨(r b B).1,λG=> ?_⟩⟩
 ·grind
 rcases E b G with h|h
 ·exact(r b B).2 h
 have:=o.lt b B;omega
theorem Qw7(w g m S c d l)(h:Zh w g 0 m S)(hl:Yq m (c::d::l))(kx E vx)(dx:List Int)(s z:Wd)(px qx cx ex Gx)(CJ:Ow Q4 w [I Z kx,I Z E,I Z vx,A px dx cx,A qx 2 ex] (kx,E,vx,dx,[s,z]) Gx)(CK:∀c∈Gx,c∉g::S.all)(L M O)(H:List Int)(B:List Wd)(py qy cy ey Gy)(CL:Ow Q4 w [I Z L,I Z M,I Z O,A py H cy,A qy B ey] (L,M,O,H,B) Gy)(CM:∀c∈Gy,c∉g::S.all)(CN:3 * B.length<=l)(CO:B.length<=1000)(CP:H.length<=100000000)(hC:(mC m).length<=1000000):
  Bv prog 252 #[.pointer (R ⟨g,0,N⟩),.agg #[I Z kx,I Z E,I Z vx,A px dx cx,A qx 2 ex],.agg #[I Z L,I Z M,I Z O,A py H cy,A qy B ey]] w λe w'=>∃v' S' l',e=.returned v'/\Qn w S g 0 w' (Qtz m (kx,E,vx,dx,[s,z]) (L,M,O,H,B)).1 S' l'/\Je Z7 w S' w' v' (Qtz m (kx,E,vx,dx,[s,z]) (L,M,O,H,B)).2:=by
 have AY:=qh (Qn.start h hl);have CQ:=qh CJ;have CR:=qh CL;have A9:=qh h.lt;have ET:=qh CK;have EU:=qh CM;have EV:=qh CN;have HC:g<w:=h.blk.lt;clear h hl CJ CL CK CM CN;go_enter func252,ntmps252;go_upto_region 2 with fail
 refine Qp λJ AA=> ?_;have CS:=D (w,J) (by rw[AA];go_grown);have EW:J.heap.size=w+1+1+1+1:=by rw[AA];simp
 have EX:=D (J.heap[w.heap.size]?=R (.cells #[.pointer (R ⟨g,0,N⟩)] 282 (0,0))) (by rw[AA];exact Z3 (Z3 (Z3 (Bg w _))));have EY:=D (Q5p Q4 J (w+1) 0 (kx,E,vx,dx,[s,z]) Gx) (by rw[AA];have:=Q5p.arg (w:=w.alloc (.cells #[.pointer (R ⟨g,0,N⟩)] 282)) (T:=172) (CQ.o.frame (X:=λ_=>False) ((Q1.refl _ _).alloc _) (λb G=>⟨CQ.o.lt b G,λh=>h⟩));simp only[World.size_alloc]at this;exact this.frame (X:=λ_=>False) (((Q1.refl _ _).alloc _).alloc _) (λ_ _ h=>h));have EZ:=D (Q5p Q4 J (w+1+1) 0 (L,M,O,H,B) Gy) (by rw[AA];have:=Q5p.arg (w:=(w.alloc (.cells #[.pointer (R ⟨g,0,N⟩)] 282)).alloc (.cells #[I Z kx,I Z E,I Z vx,A px dx cx,A qx 2 ex] 172)) (T:=172) (CR.o.frame (X:=λ_=>False) (((Q1.refl _ _).alloc _).alloc _) (λb G=>⟨CR.o.lt b G,λh=>h⟩));simp only[World.size_alloc]at this;exact this.frame (X:=λ_=>False) ((Q1.refl _ _).alloc _) (λ_ _ h=>h));have F0:=D (J.heap[w.heap.size+1+1+1]?=R (.cells #[I Z B.length] 3 (0,0))) (by rw[AA];have:=Bg (((w.alloc (.cells #[.pointer (R ⟨g,0,N⟩)] 282)).alloc (.cells #[I Z kx,I Z E,I Z vx,A px dx cx,A qx 2 ex] 172)).alloc (.cells #[I Z L,I Z M,I Z O,A py H cy,A qy B ey] 172)) (.cells #[I Z B.length] 3);simp only[World.size_alloc]at this;exact this);have F1:=D (Qao ((w.heap.size+1)::Gx) g S) (λc Y=>by
  rcases Aq.1 Y with rfl|Y
  ·exact λhm=>by have:=A9.o _ hm;omega
  exact ET.o c Y)
 have F2:=D (Qao ((w.heap.size+1+1)::Gy) g S) (λc Y=>by
  rcases Aq.1 Y with rfl|Y
  ·exact λhm=>by have:=A9.o _ hm;omega
  exact EU.o c Y)
 obtain⟨AZ,B0,HD,HE,iy,F3,F4,BJ⟩:=EZ.o.facts F2;obtain⟨HF,HG,HH,CT,ix,-,F5,BK⟩:=EY.o.facts F1;simp only[Nat.zero_add,Br,List.length_nil,Bj]at BJ BK;have B1:=qh BJ;have B2:=qh BK;have CU:=qh iy;have F6:=qh ix;have BL:=qh (AY.o.below CS);have F7:=qh (Qn.start BL.o.mem BL.o.free);have HI:w.heap.size+1<J.heap.size:=by omega
 have HJ:w.heap.size+1+1<J.heap.size:=by omega
 have F8:w.heap.size<J:=by omega
 have F9:w.heap.size+1+1+1<J.heap.size:=by omega
 have AM:=D (S.cb<w) (A9.o _ (Aa _ Ae));unfold Bu at F3 F4 F5;have BM:=D (∀V,Q1 (λc=>c=g\/c∈S.all) J V->V.cell? ⟨w,0,N⟩=R (.pointer (R ⟨g,0,N⟩))/\(V,w.heap.size+1+1+1,0,I Z B)) (λV C=>by have n1:¬(w=g\/w.heap.size∈S.all):=λe=>e.elim (λe=>by omega) (λe=>by have:=A9.o _ (Aa _ e);omega);have n2:¬(w.heap.size+1+1+1=g\/w.heap.size+1+1+1∈S.all):=λe=>e.elim (λe=>by omega) (λe=>by have:=A9.o _ (Aa _ e);omega);exact⟨(C.cell F8 n1 0).trans (Q6 EX rfl),(C.cell F9 n2 0).trans (Q6 F0 rfl)⟩);have CV:=D (∀b,b=w.heap.size\/b=w.heap.size+1+1\/b=w.heap.size+1+1+1->b≠g/\b≠S.cb) (λb G=>by have:=AM.o;omega);clear BJ BK iy ix AA EW;obtain⟨t0,t1⟩:=BM.o J (Q1.refl _ _);obtain⟨⟨y0,y1,y2,y3,y4⟩,CW,-⟩:=B1.o J (Q1.refl _ _);have CX:=qh CW;have CY:=qh (Cj y0 (Cj y1 (Cj y2 y3)));have HT:=qh (Cj t0 t1);clear CW;go_upto_region 4 with((go_at_call 281;(with_reducible refine(Qq2 J J g m S S c (d::l) F7 w (w+1+1) (w+1+1+1) B L M O H AZ N B0 0 0 HT.o.1 HT.o.2 CY CX CU CP CO CV).mono ?_);rintro e w1 ⟨rfl,G1,hs,hg,C⟩;have AF:=qh hs;have FA:=qh hg;have FB:=qh C;clear hs hg C))
 have BN:=qh (BM.o w1 AF.o.fr)
 have BO:=qh (show((w1,w.heap.size+1+1,0,I Z L)/\(w1,w.heap.size+1+1,1,I Z M)/\(w1,w.heap.size+1+1,2,I Z O)/\(w1,w.heap.size+1+1,3,A AZ H B0))/\Rd (.slice .int) w1 [A AZ H B0] H from
  have h:=B1.o w1 AF.o.fr;⟨⟨h.1.1,h.1.2.1,h.1.2.2.1,h.1.2.2.2.1⟩,h.2.1⟩)
 go_upto_region 5 with((go_at_call 281;(with_reducible refine(Qq2 J w1 g _ S _ d l AF w (w+1+1) (w+1+1+1) B L M O H AZ N B0 0 0 BN.o.1 BN.o.2 BO.o.1 BO.o.2 CU CP CO CV).mono ?_);rintro e w2 ⟨rfl,G2,hs,hg,C⟩;have AB:=qh hs;clear hs hg C))
 have CZ:=Jm.nodup AY.o.free;simp only[List.nodup_cons,List.mem_cons,not_or]at CZ;obtain⟨⟨BP,AN⟩,BQ,-⟩:=CZ;have B3:=D (mF m=(c:Int)/\c<(mC m).length) (⟨(AY.o.first Z6).1,(AY.o.first Z6).2.1⟩);have AO:=D (mF (Qi m (L,M,O,H,Jz B))=(d:Int)/\d<(mC (Qi m (L,M,O,H,Jz B))).length) (⟨(AF.o.first Z6).1,(AF.o.first Z6).2.1⟩);have BR:=D (Qtz m (kx,E,vx,dx,[s,z]) (L,M,O,H,B)=(Bz B).foldl (Q09 B E (c:Int) (d:Int)) (Qi (Qi m (L,M,O,H,Jz B)) (L,M,O,H,Jz B),[(s,((1:Int),(c:Int))),(z,((1:Int),(d:Int)))])) (by unfold Qtz;simp only[aK,aL,aV,aD,aW];rw[show mF m=(c:Int)from B3.o.1,show mF (Qi m (L,M,O,H,Jz B))=(d:Int)from AO.o.1];rfl);have FC:=D (Q57 B (Qi (Qi m (L,M,O,H,Jz B)) (L,M,O,H,Jz B)) l [(c:Int),(d:Int)]) (by
  have hz:(aW (L,M,O,H,Jz B)).length=B:=by simp[aW,Jz]
  have h0:Q57 B m (c::d::l) []:=λ_ h=>(Cs h).elim;have h1:=h0.take B3.o.1 B3.o.2 (by simp only[List.mem_cons,not_or];exact⟨BP,AN⟩) (L,M,O,H,Jz B) hz;exact h1.take AO.o.1 AO.o.2 BQ (L,M,O,H,Jz B) hz)
 have FD:=D ((mC (Qi (Qi m (L,M,O,H,Jz B)) (L,M,O,H,Jz B))).length=(mC m)) (by rw[Qg,Qg]);have D0:=D (Qyn (c:Int)/\Qyn (d:Int)) (⟨by have:=B3.o.2;unfold Qyn;omega,by have:=AO.o.2;rw[Qg]at this;unfold Qyn;omega⟩);have HK:=D (c∉l/\d∉l/\c≠d) (⟨AN,BQ,BP⟩);clear AO AF FA FB BN BO CY CX HT y0 y1 y2 y3 y4 t0 t1 BP AN BQ;generalize Qi (Qi m (L,M,O,H,Jz B)) (L,M,O,H,Jz B)=m2 at *
 generalize (S.put (c:Int) G1).put (d:Int) G2=S2 at *
 obtain⟨bx,ox,B4,D1⟩:=Rd.elem (B2.o _ AB.o.fr).2.2 0 (by simp);obtain⟨HL,HM,BS,D2⟩:=Rd.elem (B2.o _ AB.o.fr).2.2 1 (by simp);rw[B4]at BS;simp only[Option.some.injEq,Addr.mk.injEq,and_true]at BS;obtain⟨rfl,rfl⟩:=BS;obtain⟨e0,e1,D3,D4⟩:=At.word (t:=s.1) (a:=s.2) D1;obtain⟨e2,e3,D5,D6⟩:=At.word (t:=z.1) (a:=z.2) D2;obtain⟨⟨-,B5,-,-,x4⟩,-,-⟩:=B2.o _ AB.o.fr;rw[B4]at x4;have HN:=qh B4;simp only[Ty.sz,Bj,Dm,Nat.one_mul,Cw]at e0 e1 e2 e3;have B6:=qh (Cj (Cj D3 D4) (Cj D5 D6));have FE:=D (∀V,Bp w2 w2 V->(V,w.heap.size+1,4,A (R ⟨bx,ox,N⟩) 2 CT)/\(V,bx,ox,I Z s.1)/\(V,bx,ox+1,I Z s.2)/\(V,bx,ox+2,I Z z.1)/\(V,bx,ox+3,I Z z.2)) (λV G=>Qde G x4 e0 e1 e2 e3);have D7:=D (Bp w2 w2 w2.drew) ((Ai _ _).drew);have HP:(1:Int)<2:=by omega
 clear D1 D2 D3 D4 D5 D6 B4 e0 e1 e2 e3 x4 B5;go_cut [11] (λu wq=>∃b:Nat,u=A (R ⟨b,0,N⟩) 2 2/\w2<=b/\wq.heap[b]?=R (.cells #[I Z s.1,I Z s.2,I Z 1,I Z c,I Z z.1,I Z z.2,I Z 1,I Z d] 289 (0,0))/\(w2,wq))
 case first=>
  go_region_held3(λV=>(V,w.heap.size+1,4,A (R ⟨bx,ox,N⟩) 2 CT)/\(V,bx,ox,I Z s.1)/\(V,bx,ox+1,I Z s.2)/\(V,bx,ox+2,I Z z.1)/\(V,bx,ox+3,I Z z.2))
   (((with_reducible refine FE.o _ ?_);(first|(with_reducible first|exact AC.o|exact AC.o.alloc AC.o.size _|exact D8.o|exact D7.o)|fail)))
   (first
    |((go_at_call 277;(with_reducible refine jR (Q0g w3 _) λwf G=> ?_);have AC:=qh (Q0 D8 G);clear G))
    |((go_at_call 277;(with_reducible refine jR (Q0g w2.drew _) λw3 G=> ?_);have D8:=qh (Q0 D7 G);clear G))
    |fail)
  all_goals(go_wp2_with fail;go_meet)
  all_goals exact⟨_,rfl,AC.o.size,Bg wf _,AC.o.alloc AC.o.size _⟩
 obtain⟨bq,rfl,D9,hq,AG⟩:=hcut;have DA:=qh (AB.o.below AG);have AC:=qh AG
 have DB:=qh (show Je Z7 J S2 wc (A (R ⟨bq,0,N⟩) 2 2) [(s,((1:Int),(c:Int))),(z,((1:Int),(d:Int)))]from
  ⟨[bq],Qkv hq ⟨⟨B6.o.1.1,B6.o.1.2,by unfold Qyn;omega,D0.o.1⟩,B6.o.2.1,B6.o.2.2,by unfold Qyn;omega,D0.o.2⟩,by simp,λb G=>by
   obtain rfl:b=bq:=by simpa using G
   exact⟨Au AB.o.fr.size D9,λhm=>by have:=AB.o.mem.lt _ (Aa _ hm);omega⟩⟩)
 clear hq AG D9 AB;obtain⟨o,ho⟩:∃o:List Qy3,o=[(s,((1:Int),(c:Int))),(z,((1:Int),(d:Int)))]:=⟨_,rfl⟩;have FF:=D (o.length=2) (by rw[ho];rfl);rw[<-ho]at DB BR;have HO:=qh ho;obtain⟨i0,FG,FH,FI,FJ⟩:=Ck Qeb;obtain⟨⟨-,-,-,-,y4⟩,-,-⟩:=B1.o _ DA.o.fr;have HQ:∀W:Bh,(Instr.makeSlice 121 (I Z 2) (I Z 2)).run prog W=.ok (A (R ⟨W,0,N⟩) 2 2) (W.alloc (.cells #[I Z 0,I Z 0,I Z 0,I Z 0] 40)):=λW=>by have hm:Ds (Value.agg #[I Z 0,I Z 0]).cells (2 * 2)=#[I Z 0,I Z 0,I Z 0,I Z 0]:=Array.toList_inj.1 ((Q9b 2).trans rfl);have:=Q83 W 2 (by omega);rw[hm]at this;exact this
 clear ho;go_wp2_with fail
 go_loopw [11,43] (λu i wr=>∃(j:Nat) (S':MS) (l':List Nat),j<=B/\i=I Z j/\Hd (Qn J S g 0 wr ((Bz j).foldl (Q09 B E (c:Int) (d:Int)) (m2,o)).1 S' l')/\Hd (Je Z7 J S' wr u ((Bz j).foldl (Q09 B E (c:Int) (d:Int)) (m2,o)).2)/\Hd (3 * B.length<=l'.length+3 * j)/\Hd (Q57 B ((Bz j).foldl (Q09 B E (c:Int) (d:Int)) (m2,o)).1 l' [(c:Int),(d:Int)])/\Hd (((Bz j).foldl (Q09 B E (c:Int) (d:Int)) (m2,o)).2.length=2+j)/\Hd ((mC ((Bz j).foldl (Q09 B E (c:Int) (d:Int)) (m2,o)).1).length=(mC m))) (λ_ i _=>B.length-(By i).toNat);case atStart=>exact⟨0,S2,l,Ak _,rfl,DA.o,DB.o,EV.o,FC.o,FF.o,FD.o⟩
 obtain⟨j,S',l',hj,rfl,HS,AP,DC,AH,DD,DE⟩:=hrel;have HR:=HS.o.fr.size;by_cases B7:j<B
 ·obtain⟨f,u,v,l3,rfl⟩:∃f u v l3,l'=f::u::v::l3:=by
   match l',(show 3<=l'.length by have:=DC.o;omega)with
   |f::u::v::l3,_=>exact⟨f,u,v,l3,rfl⟩
  have AQ:=D ((Bz (j+1)).foldl (Q09 B E (c:Int) (d:Int)) (m2,o)=Q09 B E (c:Int) (d:Int) ((Bz j).foldl (Q09 B E (c:Int) (d:Int)) (m2,o)) j) (by rw[List.range_succ,List.foldl_append];rfl);generalize (Bz j).foldl (Q09 B E (c:Int) (d:Int)) (m2,o)=Fj at *
  obtain⟨mj,oj⟩:=Fj;have HS:=D (Qn J S g 0 wr mj S' (f::u::v::l3)) (HS.o);have AH:=D (Q57 B mj (f::u::v::l3) [(c:Int),(d:Int)]) (AH.o);obtain⟨pu,cu,rfl⟩:=AP.o.form;obtain⟨Fo,DF⟩:=AP.o;have DG:=qh DF;obtain⟨bw,ow,FK,hE⟩:=Rd.elem (B1.o _ HS.o.fr).2.2 j B7;obtain⟨f0,f1,DH,DI⟩:=At.word (t:=B[j].1) (a:=B[j].2) hE;have FL:=qh (Q9t B7);generalize B[j].1=wt at *
  generalize B[j].2=wa at *
  subst FK;simp only[Ty.sz,Bj]at f0 f1;have DJ:=qh (Cj DH DI);have HU:(0:Int)<=j:=by omega
  have HV:(j:Int)<B:=by omega
  clear DF hE DH DI;go_upto_region 9 with fail
  refine Qp λP AR=> ?_;have BT:=D (wr,P) (by rw[AR];go_grown);have DK:P.heap[wr.heap.size]?=R (.cells #[I Z wt,I Z wa] 40 (0,0)):=by rw[AR];exact Bg wr _
  have BU:=qh DK;have DL:P.heap.size=wr+1:=by rw[AR];simp
  have DM:=qh DL;have B8:=qh (HS.o.below BT);clear AR DK f0 f1 DL;have AI:=D (∀V,Q1 (λc=>c=g\/c∈S.all) J V->V.cell? ⟨w,0,N⟩=R (.pointer (R ⟨g,0,N⟩))/\(V,w.heap.size+1,1,I Z E)) (λV C=>⟨(BM.o V C).1,(B2.o V C).1.2.1⟩);have FM:=qh B8.o.mem.lt;have FN:=qh HS.o.mem.lt;have BV:=D (Bp P P ((P.alloc (.cells #[I Z 0,I Z 0,I Z 0,I Z 0] 40)).drew)) (((Ai _ _).alloc (Aj _) _).drew);have BW:=qh (B8.o.below BV);have DN:=D (Ow Q4 ((P.alloc (.cells #[I Z 0,I Z 0,I Z 0,I Z 0] 40)).drew) [I Z 4,I Z E,I Z 0,A N 0 0,A (R ⟨P,0,N⟩) 2 2] (4,E,0,[],[(0,0),(0,0)]) ([]++ [P.heap.size])) (Ow.mkAgent (by unfold Qyn;omega) F6.o.2.1 (by unfold Qyn;omega) (Ow.nil _) (Ql0 (T:=40) (Bg P _) (by unfold Qyn;omega) (by unfold Qyn;omega) (by unfold Qyn;omega) (by unfold Qyn;omega)));have BX:=D (∀q∈([]++ [P.heap.size]:List Nat),J<=q/\q∉g::S'.all) (λq hq=>by
   obtain rfl:q=P.heap.size:=by simpa using hq
   exact⟨by have:=DM.o;omega,λhm=>by have:=FM.o _ hm;omega⟩)
  have DO:=D (([]++ [P.heap.size]:List Nat).Nodup) (by simp);have DP:=qh (B8.o.drew)
  go_region_held3(λV=>V.cell? ⟨w,0,N⟩=R (.pointer (R ⟨g,0,N⟩))/\(V,w.heap.size+1,1,I Z E))
   (((with_reducible refine AI.o _ ?_);(first|(with_reducible first|exact AD.o.fr|exact BW.o.fr|exact DP.o.fr)|fail)))
   ((go_at_call 273;(with_reducible refine(Q60 BW 4 E 0 N (R ⟨P,0,N⟩) 0 0 2 2 (4,E,0,[],[(0,0),(0,0)]) ([]++ [P.heap.size]) DN DO (λq hq=>(BX.o q hq).2) (λq hq=>(BX.o q hq).1)).mono ?_);rintro e' w9 ⟨rfl,hs,C⟩;have AD:=qh hs;have B9:=qh ((Ay (X:=λc=>c=g\/c=S.cb) BV).trans C);clear hs C))
  have DQ:=qh (AI.o _ AD.o.fr);obtain⟨t9,-⟩:=DQ.o;have BY:=D (∀q∈(S'.put (f:Int) ([]++ [P.heap.size])).all,q=P.heap.size\/q∈S'.all) (λq hq=>(Y0 hq).imp (λh=>by simpa using h) id);have DR:=qh AD.o.mem.lt;go_upto_region 11 with((go_at_call 275;(with_reducible refine(Q7y AD).mono ?_);rintro e' U ⟨rfl,hs,C⟩;have BA:=qh hs;have AE:=qh C;clear hs C))
  refine Qp λBB BZ=> ?_;have BC:=D (U,BB) (by rw[BZ];go_grown);have DS:BB.heap[U.heap.size]?=R (.cells #[I Z 2,I Z u] 40 (0,0)):=by rw[BZ];exact Bg U _
  have C0:=qh DS;have C1:=qh (BA.o.below BC);clear BZ DS;obtain⟨FO,-⟩:=AI.o _ C1.o.fr;go_upto_region 12 with((go_at_call 275;(with_reducible refine(Q7y C1).mono ?_);rintro e' p ⟨rfl,hs,C⟩;have DT:=qh hs;have A5:=qh C;clear hs C))
  refine Qp λA0 C2=> ?_;have AS:=D (p,A0) (by rw[C2];go_grown);have DU:A0.heap[p.heap.size]?=R (.cells #[I Z 2,I Z v] 40 (0,0)):=by rw[C2];exact Bg p _
  have C3:=qh DU;have A2:=qh (DT.o.below AS);clear C2 DU;have FP:w9.heap.size<=U:=AE.o.size;have FQ:U.heap.size<BB:=Zl C0;have HW:BB.heap.size<=p:=A5.o.size;have FR:p.heap.size<A0:=Zl C3;have AR:P.heap.size<=w9:=B9.o.size;have FT:wr.heap.size<P:=Zl BU;have DV:=D (∀b∈(((S'.put (f:Int) ([]++ [P.heap.size])).put (u:Int) []).put (v:Int) []).all,b≠wr.heap.size/\b<U.heap.size) (λb G=>by
   have h9:b∈(S'.put (f:Int) ([]++ [P.heap.size])).all:=(Y0 G).elim (λh=>by simp at h) (λh=>(Y0 h).elim (λh=>by simp at h) id);refine⟨λe=> ?_,Ap (DR.o _ (Aa _ h9)) FP⟩;rcases BY.o b h9 with h|h
   ·omega
   have:=FN.o _ (Aa _ h);omega)
  have FU:=qh A2.o.cb;have FV:=D (A0.heap[wr.heap.size]?=R (.cells #[I Z wt,I Z wa] 40 (0,0))) (by have A6:¬(wr=g\/wr=S.cb):=λe=>e.elim (λe=>by omega) (λe=>by have:=AM.o;omega);have e1:=(B9.o.block wr FT A6).trans BU;have e2:=(AE.o.block wr (by omega) A6).trans e1;have e3:=Qf e2 BC;have e4:=(A5.o.block wr (by omega) A6).trans e3;exact Qf e4 AS);have DW:=D (A0.heap[U.heap.size]?=R (.cells #[I Z 2,I Z u] 40 (0,0))) (by have A6:¬(U=g\/U=S.cb):=λe=>e.elim (λe=>by omega) (λe=>by have:=AM.o;omega);exact Qf ((A5.o.block U FQ A6).trans C0) AS);have FW:=D (Q1 (λc=>c=g\/c=S.cb) wr A0) ((Ay BT).trans (B9.o.trans (AE.o.trans ((Ay BC).trans (A5.o.trans (Ay AS))))));have FX:=D (Qjk Z7 Fo J (((S'.put (f:Int) ([]++ [P.heap.size])).put (u:Int) []).put (v:Int) []) A0 (A pu oj cu) oj) (by
   refine Qjk.step DG FW (λc Y=> ?_) (λb G=> ?_)
   ·exact .inl (Y.elim (λe=>by omega) (λe=>by have:=AM.o;omega))
   have h9:b∈(S'.put (f:Int) ([]++ [P.heap.size])).all:=(Y0 G).elim (λh=>by simp at h) (λh=>(Y0 h).elim (λh=>by simp at h) id);exact(BY.o b h9).elim (λh=> .inr (by omega)) .inl)
  have AJ:=D (mF mj=(f:Int)/\f<(mC mj).length/\f∉l3) (⟨(HS.o.first Z6).1,(HS.o.first Z6).2.1,λe=>(Ar.1 (Jm.nodup HS.o.free)).1 (Aa _ (Aa _ e))⟩);have C4:=D (mF (Qi mj (4,E,0,[],[(0,0),(0,0)]))=(u:Int)/\u<(mC mj).length) (⟨(AD.o.first Z6).1,by have:=(AD.o.first Z6).2.1;rw[Qg]at this;exact this⟩);have C5:=D (mF (Qw (Qi mj (4,E,0,[],[(0,0),(0,0)])))=(v:Int)/\v<(mC mj).length) (⟨(BA.o.first Z6).1,by have:=(BA.o.first Z6).2.1;unfold Qw at this;rw[Qg,Qg]at this;exact this⟩);have FY:=D (Q57 B (Qw (Qw (Qi mj (4,E,0,[],[(0,0),(0,0)])))) l3 [(c:Int),(d:Int)]) (((AH.o.skip AJ.o.1 _).skip C4.o.1 _).skip C5.o.1 _);have C6:=D ((mC (Qw (Qw (Qi mj (4,E,0,[],[(0,0),(0,0)]))))).length=(mC mj)) (by unfold Qw;rw[Qg,Qg,Qg]);have FZ:=D (c≠f/\d≠f) (by obtain⟨q,h1,-,h3,-⟩:=AH.o (c:Int) (by simp);obtain⟨q',HX,-,DX,-⟩:=AH.o (d:Int) (by simp);simp only[List.mem_cons,not_or]at h3 DX;exact⟨λe=>h3.1 (by omega),λe=>DX.1 (by omega)⟩);have AT:=D (Q09 B E (c:Int) (d:Int) (mj,oj) j=(Qm (Qm (Qa (Qw (Qw (Qi mj (4,E,0,[],[(0,0),(0,0)])))) (f:Int) [(2,(u:Int)),(2,(v:Int))]) (c:Int) j (2,(u:Int))) (d:Int) j (2,(v:Int)),oj++ [((wt,wa),((1:Int),(f:Int)))])) (by unfold Q09;simp only[];rw[AJ.o.1,C4.o.1,C5.o.1,FL.o]);have G0:=D ((mC mj).length<=1000000) (by have h1:(mC mj).length=(mC m):=DE.o;omega);have AU:=D (Qyn (u:Int)/\Qyn (v:Int)/\Qyn (f:Int)) (by have:=G0.o;have:=AJ.o.2.1;have:=C4.o.2;have:=C5.o.2;unfold Qyn;omega);clear AD B9 BA AE C1 DT A5 BC AS C0 DQ DR BY B8 BW DN BX DO DP BV BT BU t9 FO DM AP AH;generalize Qw (Qw (Qi mj (4,E,0,[],[(0,0),(0,0)])))=m3 at *
  generalize ((S'.put (f:Int) ([]++ [P.heap.size])).put (u:Int) []).put (v:Int) []=S3 at *
  go_cut [14] (λx wx=>x=I Z f/\∃K,Hd (Qn J S g 0 wx (Qa m3 (f:Int) [((2:Int),(u:Int)),(2,(v:Int))]) K l3)/\Hd (Qjk Z7 Fo J K wx (A pu oj cu) oj)/\Hd (wx.heap[wr.heap.size]?=R (.cells #[I Z wt,I Z wa] 40 (0,0)))/\Hd (wx.heap[U.heap.size]?=R (.cells #[I Z 2,I Z u] 40 (0,0)))/\Hd (wx.heap[p.heap.size]?=R (.cells #[I Z 2,I Z v] 40 (0,0)))/\Hd (∀b∈K.all,b≠wr.heap.size/\b≠U.heap.size/\b≠p.heap.size)/\A0.heap.size<=wx)
  case first=>
   obtain⟨pf,cf,HY,HZ,I0,G3,G4,AG,DY⟩:=A2.o.focusN (i:=f) (by rw[C6.o];exact AJ.o.2.1) AJ.o.2.2;have G5:=qh DY;have G6:=qh AG;clear G3 G4 AG DY;obtain⟨_,_,c0,-,-,-,-,-,-,-,-⟩:=A2.o.mem.head;have DZ:=A2.o.mem.cells.bound;unfold Bu at DZ;obtain⟨I1,I2⟩:=DZ;obtain⟨G7,I3⟩:=A2.o.mem.ne;have I4:=λq=>A2.o.mem.cells.blk.free q;obtain⟨⟨u0,u1⟩,-⟩:=Zj DW;obtain⟨⟨v0,v1⟩,-⟩:=Zj C3;have I5:=A2.o.mem.blk.lt;have AN:=A2.o.mem.cells.blk.lt;have I6:S3.cb<w:=by rw[FU.o];exact AM.o
   have C7:U≠S3.cb:=by omega
   have C8:p≠S3.cb:=by omega
   have G8:wr≠S3.cb:=by omega
   have G9:w≠S3.cb:=by omega
   have GA:=(AI.o _ A2.o.fr).1;have I7:(0:Int)<=f:=by omega
   have I8:(f:Int)<(mC m3):=by have:=C6.o;have:=AJ.o.2.1;omega
   have GB:=D (∀V,Q1 (λc=>c=S3.cb) A0 V->V.cell? ⟨w,0,N⟩=R (.pointer (R ⟨g,0,N⟩))/\(V,g,0,A (R ⟨S3.cb,S3.o,N⟩) (mC m3) S3.cap)/\(V,U.heap.size,0,I Z 2)/\(V,U.heap.size,1,I Z u)/\(V,p.heap.size,0,I Z 2)/\(V,p.heap.size,1,I Z v)) (λV C=>⟨Qo C GA G9,Q62 C c0 u0 u1 v0 v1 G7 C7 C7 C8 C8⟩);have A7:=qh (((Zw A0 S3.cb (S3.o+f * 5+4) (A (R ⟨A0,0,N⟩) 2 2)).alloc (.cells #[I Z 2,I Z u,I Z 2,I Z v] 40)).drew)
   go_region_held3(λV=>V.cell? ⟨w,0,N⟩=R (.pointer (R ⟨g,0,N⟩))/\(V,g,0,A (R ⟨S3.cb,S3.o,N⟩) (mC m3) S3.cap)/\(V,U.heap.size,0,I Z 2)/\(V,U.heap.size,1,I Z u)/\(V,p.heap.size,0,I Z 2)/\(V,p.heap.size,1,I Z v))
    (((with_reducible refine GB.o _ ?_);(first|exact A7.o|(repeat(first|with_reducible exact Q1.refl _ _|with_reducible apply Q1.drew|with_reducible apply Q1.alloc)))))
    (first|fail)
   go_wp2_with fail
   go_meet;have C9:=G5.o (A0.alloc (.cells #[I Z 2,I Z u,I Z 2,I Z v] 40)) (R ⟨A0,0,N⟩) 2 2 [((2:Int),(u:Int)),(2,(v:Int))] [A0.heap.size] ((Q1.refl _ _).alloc _) (Qb8 (Bg A0 _) (by unfold Qyn;omega) AU.o.1 (by unfold Qyn;omega) AU.o.2.1) rfl (by simp) (λb G=> .inr (by simp at G;omega));rw[World.setCell_alloc_past _ _ _ _ AN]at C9;have A8:=D (Qn J S g 0 _ _ _ _) (C9.1.drew);have CA:=qh (FX.o.step A7 (λc Y=> .inl (by omega)) C9.2.1.2.2.2);have BD:=qh ((A7.o.block p FR C8).trans C3);have CB:=qh ((A7.o.block U (by omega) C7).trans DW);have BE:=qh ((A7.o.block wr (by omega) G8).trans FV);exact⟨rfl,_,A8.o,CA.o,BE.o,CB.o,BD.o,(show∀b∈_,_ from λb G=>by
    rcases Y0 G with h|h
    ·rcases At0.1 h with h|h
     ·have:=DV.o b (G6.o _ (Ag _ h)).1;omega
     simp at h;omega
    have:=DV.o b h;omega),A7.o.size⟩
  obtain⟨rfl,K,A8,CA,BE,CB,BD,E0,I9⟩:=hcut;rename Bh=>W12
  have E1:=D (Q57 B (Qa m3 (f:Int) [((2:Int),(u:Int)),(2,(v:Int))]) l3 [(c:Int),(d:Int)]) (FY.o.words (λa ha=>by have h:=FZ.o;simp only[List.mem_cons,Cs,or_false]at ha;rcases ha with rfl|rfl<;>omega));have GC:=D ((mC (Qa m3 (f:Int) [((2:Int),(u:Int)),(2,(v:Int))])).length=(mC m3)) (Qjq);generalize Qa m3 (f:Int) [((2:Int),(u:Int)),(2,(v:Int))]=m4 at *
  obtain⟨qc,IA,GD,GE,E2⟩:=E1.o (c:Int) (by simp);obtain rfl:c=qc:=by omega
  obtain⟨bc,oc,kc,BF,⟨AV,E3,E4⟩,GF,E5⟩:=A8.o.wordB (i:=(c:Int)) (k:=j) (by rw[Bq];exact GD) (by rw[Bq];exact GE) (by unfold Q7;rw[Bq,E2];exact B7);have GG:(aW (Q7 (mC m4) (c:Int))).length=B:=by unfold Q7;rw[Bq];exact E2
  rw[GG]at BF GF;simp only[Bq]at BF;have CC:=qh (Cj AV (Cj E3 E4));have AW:=qh (E0.o bc AV);have IB:=D ((mC m4).length<=9223372036854775807) (by have h:=A8.o.mem.cells.bound;unfold Bu at h;omega);obtain⟨⟨IC,GH⟩,⟨ID,GI⟩,GJ,E6⟩:=E5 W12 (Ai _ _);have GK:=qh E6;obtain⟨_,_,E7,-,-,-,-,-,-,-,-⟩:=A8.o.mem.head;have E8:=(AI.o _ A8.o.fr).1;obtain⟨⟨E9,B5⟩,-⟩:=Zj CB;have GL:w≠bc:=λe=>by have h:=AW.o;have hh:=A8.o.fresh.2.2.2 bc AV;exact hh.elim (λhh=>by have:=A9.o _ (Aa _ hh);omega) (λhh=>by omega)
  have GM:=D (∀V,Q1 (λc=>c=bc) W12 V->V.cell? ⟨w,0,N⟩=R (.pointer (R ⟨g,0,N⟩))/\(V,g,0,A (R ⟨K.cb,K.o,N⟩) (mC m4) K.cap)/\(V,K.cb,K.o+c * 5+4,A (R ⟨bc,oc,N⟩) B kc)/\(V,U.heap.size,0,I Z 2)/\(V,U.heap.size,1,I Z u)) (λV C=>⟨Qo C E8 GL,Qo C E7 (λe=>CC.o.2.1 e.symm),Qo C BF (λe=>CC.o.2.2 e.symm),Qo C E9 (λe=>AW.o.2.1 e.symm),Qo C B5 (λe=>AW.o.2.1 e.symm)⟩);have IE:bc<W12:=A8.o.mem.lt _ (Aa _ AV);have IF:(0:Int)<=c:=by omega
  have IG:(c:Int)<(mC m4):=by omega
  clear E6 E5 E8 E7 BF E9 B5 AV E3 E4;go_upto_region 13 with fail
  go_region_held3(λV=>V.cell? ⟨w,0,N⟩=R (.pointer (R ⟨g,0,N⟩))/\(V,g,0,A (R ⟨K.cb,K.o,N⟩) (mC m4) K.cap)/\(V,K.cb,K.o+c * 5+4,A (R ⟨bc,oc,N⟩) B kc)/\(V,U.heap.size,0,I Z 2)/\(V,U.heap.size,1,I Z u))
   (((with_reducible refine GM.o _ ?_);(repeat(first|with_reducible exact Q1.refl _ _|with_reducible apply Q1.drew|with_reducible refine Q23 ?_))))
   (first|fail)
  refine Qp λAK CD=> ?_;have CE:=D (Q1 (λc=>c=bc) W12 AK) (by rw[CD];(repeat(first|with_reducible exact Q1.refl _ _|with_reducible apply Q1.drew|with_reducible refine Q23 ?_)));have AL:=D (Qn J S g 0 AK (Qm m4 (c:Int) j (2,(u:Int))) K l3) (by rw[CD];exact(GK.o 2 u (by unfold Qyn;omega) AU.o.1).drew);have EA:=qh (E1.o.word (c:Int) j (2,(u:Int)));have EB:=qh ((CE.o.block wr (Zl BE) (λe=>AW.o.1 e.symm)).trans BE);have GN:=qh (Qjk.step (X:=λc=>c=bc) CA CE (λc Y=> .inr (by rw[Y];exact CC.o.1)) (λb G=> .inl G));clear CD GH GI GJ;have GO:=qh ((CE.o.block p (Zl BD) (λe=>AW.o.2.2 e.symm)).trans BD);obtain⟨qd,IH,GP,GQ,EC⟩:=EA.o (d:Int) (by simp);obtain rfl:d=qd:=by omega
  obtain⟨bd,od,kd,BG,⟨AX,ED,EE⟩,GR,EF⟩:=AL.o.wordB (i:=(d:Int)) (k:=j) (by rw[Bq];exact GP) (by rw[Bq];exact GQ) (by unfold Q7;rw[Bq,EC];exact B7);have GS:(aW (Q7 (mC (Qm m4 (c:Int) j (2,(u:Int)))) (d:Int))).length=B:=by unfold Q7;rw[Bq];exact EC
  rw[GS]at BG GR;simp only[Bq]at BG;have CF:=qh (Cj AX (Cj ED EE));have BH:=qh (E0.o bd AX);have II:=D ((mC (Qm m4 (c:Int) j (2,(u:Int)))).length<=9223372036854775807) (by have h:=AL.o.mem.cells.bound;unfold Bu at h;omega);obtain⟨⟨IJ,GT⟩,⟨IK,GU⟩,GV,EG⟩:=EF AK (Ai _ _);have GW:=qh EG;obtain⟨_,_,EH,-,-,-,-,-,-,-,-⟩:=AL.o.mem.head;have EI:=(AI.o _ AL.o.fr).1;obtain⟨⟨EJ,EK⟩,-⟩:=Zj GO;have GX:w≠bd:=λe=>by have h:=BH.o;have hh:=AL.o.fresh.2.2.2 bd AX;exact hh.elim (λhh=>by have:=A9.o _ (Aa _ hh);omega) (λhh=>by omega)
  have GY:=D (∀V,Q1 (λc=>c=bd) AK V->V.cell? ⟨w,0,N⟩=R (.pointer (R ⟨g,0,N⟩))/\(V,g,0,A (R ⟨K.cb,K.o,N⟩) (mC (Qm m4 (c:Int) j (2,(u:Int)))) K.cap)/\(V,K.cb,K.o+d * 5+4,A (R ⟨bd,od,N⟩) B kd)/\(V,p.heap.size,0,I Z 2)/\(V,p.heap.size,1,I Z v)) (λV C=>⟨Qo C EI GX,Qo C EH (λe=>CF.o.2.1 e.symm),Qo C BG (λe=>CF.o.2.2 e.symm),Qo C EJ (λe=>BH.o.2.2 e.symm),Qo C EK (λe=>BH.o.2.2 e.symm)⟩);have IL:bd<AK:=AL.o.mem.lt _ (Aa _ AX);have IM:(0:Int)<=d:=by omega
  have IN:(d:Int)<(mC (Qm m4 (c:Int) j (2,(u:Int)))):=by omega
  clear EG EF EI EH BG EJ EK AX ED EE;go_upto_region 14 with fail
  go_region_held3(λV=>V.cell? ⟨w,0,N⟩=R (.pointer (R ⟨g,0,N⟩))/\(V,g,0,A (R ⟨K.cb,K.o,N⟩) (mC (Qm m4 (c:Int) j (2,(u:Int)))) K.cap)/\(V,K.cb,K.o+d * 5+4,A (R ⟨bd,od,N⟩) B kd)/\(V,p.heap.size,0,I Z 2)/\(V,p.heap.size,1,I Z v))
   (((with_reducible refine GY.o _ ?_);(repeat(first|with_reducible exact Q1.refl _ _|with_reducible apply Q1.drew|with_reducible refine Q23 ?_))))
   (first|fail)
  refine Qp λA3 CG=> ?_;have EL:=D (Q1 (λc=>c=bd) AK A3) (by rw[CG];(repeat(first|with_reducible exact Q1.refl _ _|with_reducible apply Q1.drew|with_reducible refine Q23 ?_)));have CH:=D (Qn J S g 0 A3 (Qm (Qm m4 (c:Int) j (2,(u:Int))) (d:Int) j (2,(v:Int))) K l3) (by rw[CG];exact(GW.o 2 v (by unfold Qyn;omega) AU.o.2.1).drew);have GZ:=qh (EA.o.word (d:Int) j (2,(v:Int)));have EM:=qh ((EL.o.block wr (Zl EB) (λe=>BH.o.1 e.symm)).trans EB);have A4:=qh (Qjk.step (X:=λc=>c=bd) GN EL (λc Y=> .inr (by rw[Y];exact CF.o.1)) (λb G=> .inl G));clear CG GT GU GV;have H0:=D (∀q∈Fo,q<wr.heap.size) (DG.o.1.lt);have EN:=Zj EM;have EO:=Zl EM;have H1:=D (∀V,Q1 (λc=>c∈Fo) A3 V->(V,wr.heap.size,0,I Z wt)/\(V,wr.heap.size,1,I Z wa)) (λV C=>by
   have A6:wr.heap.size∉Fo:=λe=>by have:=H0.o _ e;omega
   exact⟨(C.cell EO A6 _).trans EN.1.1,(C.cell EO A6 _).trans EN.1.2⟩)
  have H2:=D (Bp A3 A3 A3.drew) ((Ai _ _).drew);have H3:=D (Q1 (λc=>c∈Fo) A3 A3.drew) ((Q1.refl _ _).drew);have H4:=qh CH.o.mem.lt;have IP:=CH.o.fr.size;go_upto_region 15 with fail
  go_region_held3(λV=>(V,wr.heap.size,0,I Z wt)/\(V,wr.heap.size,1,I Z wa))
   (((with_reducible refine H1.o _ ?_);(first|(with_reducible first|exact A7.o|exact A5.o|exact AE.o|exact H3.o)|fail)))
   (first
    |((go_at_call 277;(with_reducible refine(Q0g _ (f:Int)).mono ?_);rintro e' A1 ⟨rfl,G⟩;have BI:=qh (Q0 H2 G);have AE:=D (Q1 (λc=>c∈Fo) A3 A1) (Ay BI);have H5:=qh ((CH.o.below BI).below (show Bp A1 A1 (A1.alloc (.cells #[I Z wt,I Z wa,I Z 1,I Z f] 289))from(Ai _ _).alloc (Aj _) _));have A5:=qh (AE.o.alloc (.cells #[I Z wt,I Z wa,I Z 1,I Z f] 289));have IQ:=BI.o.size;clear G))
    |((refine Yk _ rfl (.tmp 99) (.tmp 104) 285 rfl (e:=Z7) 289 i0 _ 32 underlying285 FG FH FI FJ rfl (by decide) (v:=A pu oj cu) (xs:=oj) (y:=((wt,wa),((1:Int),(f:Int)))) (vs:=[I Z wt,I Z wa,I Z 1,I Z f]) (F:=Fo) A1 1 rfl rfl (A4.o.1.kept λq hq=>(Az _ _ _ (by have:=A4.o.1.lt q hq;omega)).trans (BI.o.block q (A4.o.1.lt q hq))) A4.o.2.1 (Ow.link DJ.o.1 DJ.o.2 (by unfold Qyn;omega) AU.o.2.2) (Qaf (Q6 (Bg A1 _) rfl) (Q6 (Bg A1 _) rfl) (Q6 (Bg A1 _) rfl) (Q6 (Bg A1 _) rfl)) Qmj (by have h9:oj.length=2+j:=DD.o;omega) ?_;intro IR IS IT H6 EP EQ ER CI;have H7:=qh EP;have H8:=qh EQ;have H9:=qh ER;have HA:=qh (H5.o.other CI (λc Y=>⟨λhm=>(Aq.1 hm).elim (λe'=>by have:=(A4.o.2.2 c Y).1;omega) (λh=>(A4.o.2.2 c Y).2 h),(A4.o.2.2 c Y).1⟩));have A7:=qh (A5.o.trans CI);clear EP EQ ER CI))
    |fail)
  go_wp2_with fail
  go_roundw;case rel=>
   refine⟨j+1,K,l3,by omega,by go_num,(show Qn _ _ _ _ _ _ _ _ from ?_),(show Je _ _ _ _ _ _ from ?_),(show _<=_ by have:=DC.o;simp only[Br]at this;omega),(show Q57 _ _ _ _ from ?_),(show _=_ from ?_),(show _=_ from ?_)⟩
   ·rw[AQ.o,AT.o];exact HA.o
   ·rw[AQ.o,AT.o]
    exact⟨H6,H7.o,H8.o,λq hq=>(H9.o q hq).elim (λh=>⟨(A4.o.2.2 q h).1,(A4.o.2.2 q h).2⟩) (λe'=>by
     have h4:q=A1.heap.size+1:=by simpa using e'
     exact⟨by omega,λhm=>by have:=H4.o q (Aa _ hm);omega⟩)⟩
   ·rw[AQ.o,AT.o];exact GZ.o
   ·rw[AQ.o,AT.o];show(oj++ [_]).length=_;rw[List.length_append];have h9:oj.length=2+j:=DD.o;rw[h9];simp;omega
   rw[AQ.o,AT.o];have Y:=GC.o;show(mC (Qm (Qm m4 (c:Int) j (2,(u:Int))) (d:Int) j (2,(v:Int)))).length=_;unfold Qm;rw[Qjq,Qjq,Y,C6.o];exact DE.o
  simp[By];omega
 have ES:j=B:=by omega
 have HB:=qh ES;have IU:¬((j:Int)<B):=by omega
 clear ES;go_wp2_with fail
 go_ret;rw[HB.o]at HS AP;refine⟨_,rfl,S',⟨l', ?_⟩, ?_⟩
 ·rw[BR.o];exact Qn.trans BL HS.o
 rw[BR.o];obtain⟨F,o',n,r⟩:=AP.o;exact⟨F,o',n,λb G=>⟨Au CS.o.size (r b G).1,(r b G).2⟩⟩
def Qmo(w b o c F G)(H:w.cell? (b,o)=R F)(J:w.cell? (b,o+1)=R G)(K:∀q,w.frozen? ⟨b,q,N⟩=Bm)(L):
  (Builtin.clear_ #[41] L #[A (R (b,o)) 1 c]).run prog w=.ok (.tuple #[]) ((w.setCell (b,o) (I Z 0)).setCell (b,o+1) (I Z 0)):=by
 have B:=run_storeCells_cells (P:=prog) b o [I Z 0,I Z 0] 0 w (λj C=>by
  match j,C with
  |0,_=>simp[H]
  |1,_=>simp[J]) (λj C=>K _) (by intro v E;simp only[List.mem_cons,Cs,or_false]at E;rcases E with rfl|rfl<;>rfl)
 simp only[Cw]at B;have M:prog.underlying 41=R (.slice 143):=underlying41;obtain⟨U,O,S,V,W⟩:=Ck Jj;have T:(Builtin.zeroCells (Value.agg #[I Z 0,I Z 0]).cells 1).toList=[I Z 0,I Z 0]:=by have:=Q9b 1;simp[Builtin.zeroCells,Value.cells];rfl
 simp[Builtin.clear_,run_underlying M,zeroValue,typeInfo,O,S,T,B,World.setCells]
def Qpu{w}(b o k B){E F}(S:k+1<=B)(G:B<=Bu)(H:w.cell? (b,o+k * 2)=R E)(J:w.cell? (b,o+k * 2+1)=R F)(K:∀q,w.frozen? ⟨b,q,N⟩=Bm):
  Bv prog 250 #[A (R (b,o)) (k+1) B,I Z k,I Z ((k:Int)+1)] w λe w'=>e=.returned (A (R (b,o)) k B)/\w'=((w.setCell (b,o+k * 2) (I Z 0)).setCell (b,o+k * 2+1) (I Z 0)).drew:=by
 unfold Bu at G;have T:(0:Int)<=k:=by omega
 have U:(k:Int)<=(k:Int)+1:=by omega
 have V:(k:Int)+1<=B:=by omega
 have X:((k:Int)==(k:Int)+1)=Bm:=by rw[beq_eq_false_iff_ne];omega
 have Y:((k:Int)+1).toNat=k+1:=by omega
 have d:(k:Int)<=B:=by omega
 have f:(0:Int)<=(k:Int)+1:=by omega
 obtain⟨L,M,g,h,i⟩:=Ck Jj;have j:∀(W:Bh) (C:TypeId) (a:Addr) (c:Nat),(Builtin.append_ #[41,41] C #[A (R (b,o)) k B,A (R a) 0 c]).run prog W=.ok (A (R (b,o)) k B) W:=λW C a c=>by have:=run_append_room_cells (P:=prog) (w:=W) 41 C 143 L underlying41 M b o k B a 0 c [] (by simp) (by simp) (by simp) (by omega) (by simp) (by simp);simpa[World.setCells]using this
 have l:∀(C:TypeId) (c:Nat),(Builtin.clear_ #[41] C #[A (R (b,o+k * 2)) 1 c]).run prog w.drew=.ok (.tuple #[]) ((w.drew.setCell (b,o+k * 2) (I Z 0)).setCell (b,o+k * 2+1) (I Z 0)):=λC c=>Qmo w.drew b (o+k * 2) c E F H J K C;by_cases O:B=k+1;case' pos=>subst O
 case' neg=>have m:(B:Int)≠(k:Int)+1:=by omega
 all_goals
  go_enter func250,ntmps250;go_wp2_with fail
  go_region_held3(λ_=>True) (trivial) (first|fail)
  go_wp2
  go_ret;exact⟨rfl,rfl⟩
def Qix(w):Bv prog 280 #[] w (oR w (.agg #[(),()])):=by
 have B:=Bg w (.cells #[(),()] 207);obtain⟨⟨H,J⟩,K⟩:=Zj B;have C:=Vs B (I Z 0) (I Z 0);obtain⟨⟨E,F⟩,-⟩:=Zj C;have G:=qh (Below.alloc (Ai w w) (Aj _) (.cells #[(),()] 207));go_enter func280,ntmps280;go_wp2_with fail
 refine Ce (v:=.agg #[(),()]) (by simp[results,results280,go_sem,E,F]) rfl ?_;exact⟨rfl,by first|exact(G.o.setCell (Aj _) _).setCell (Aj _) _|go_grown⟩
theorem Qgm{w}(vs)(x:Qb)(h:Rd Q4 w vs x)(b:(aD x).length<=100000000/\(aW x).length<=100000000)(s:1<=(aW x).length):
  Bv prog 274 #[.agg vs.toArray] w (Q2w Q4 w (Qmy x)):=by
 obtain⟨k,l,v,d,ws⟩:=x;obtain⟨T,U,f,g,rfl,V,⟨-,d2,t⟩,⟨-,w2,-⟩⟩:=h.agentV;have u:d.length<=100000000:=b.1;have AB:ws.length<=100000000:=b.2;have AC:1<=ws.length:=s;have y:=qh V;have HD:=qh t;unfold Bu at d2 w2;clear h b t V s;obtain⟨n,C⟩:∃n,ws.length=n+1:=⟨ws.length-1,by omega⟩;have z:=D (Qmy (k,l,v,d,ws)=(k,l,v,d,Jz n)) (by unfold Qmy;simp only[aK,aL,aV,aD,aW];rw[C,Nat.add_sub_cancel]);have AD:=qh C;have A0:=λW=>Q83 W n (by omega);have A1:((ws.length:Int)-1)=(n:Int):=by omega
 have AE:IntKind.i64.wrap ((ws.length:Int)-1)=(ws.length:Int)-1:=by simp only[IntKind.wrap_i64];omega
 have A2:=D (∀W:Bh,Qxu Q5 40 W (W.alloc (.cells (Ds (Value.agg #[(),()]).cells (n * 2)) 40)) (A (R (W,0)) n n) (Jz n)) (λW=>Qau W n (by omega));generalize hcur:Ds (Value.agg #[(),()]).cells (n * 2)=cur at *
 have AF:∀W:Bh,(Instr.makeSlice 121 (I Z ((ws.length:Int)-1)) (I Z ((ws.length:Int)-1))).run prog W=.ok (A (R (W,0)) n n) (W.alloc (.cells cur 40)):=λW=>by rw[A1];exact A0 W
 clear C hcur A1 A0;go_enter func274,ntmps274;go_upto_region 1 with fail
 refine Qp λW X=> ?_;have j:=D (w,W) (by rw[X];go_grown);have Y:=Jt w #[I Z k,I Z l,I Z v,A T d.length U,A f ws.length g] #[(),(),(),jN,jN] 153 172;rw[<-X]at Y;have m:=qh Y.2;obtain⟨⟨k0,k1,k2,k3,k4⟩,-⟩:=Yf Y.1;have a:=D (W.heap.size=w+2) (by rw[X];simp);have AG:w.heap.size<W:=by have:=a.o;omega
 have A3:w.heap.size+1<W.heap.size:=by have:=a.o;omega
 have o:=D (Bp W W W.drew) ((Ai _ _).drew);have p:=D (Bp W W ((W.alloc (.cells cur 40)).drew)) (((Ai _ _).alloc (Aj _) _).drew);have A4:=D (∀B,Bp W W B->Rd (.slice .int) B [A T d.length U] d) (λB H=>HD.o.kb (Q0 j.o H));have HK:=D (∀B,Q1 (λc=>c=w+1) W B->(B,w.heap.size,0,I Z k)/\(B,w.heap.size,1,I Z l)/\(B,w.heap.size,2,I Z v)/\(B,w.heap.size,3,A T d.length U)/\(B,w.heap.size,4,A f ws.length g)) (λB hf=>Q62 hf k0 k1 k2 k3 k4 (by omega) (by omega) (by omega) (by omega) (by omega));have A6:=qh (Yf m.o);obtain⟨⟨z0,z1,z2,z3,z4⟩,zf⟩:=A6.o;clear X Y
 go_region_held3(λB=>(B,w.heap.size,0,I Z k)/\(B,w.heap.size,1,I Z l)/\(B,w.heap.size,2,I Z v)/\(B,w.heap.size,3,A T d.length U)/\(B,w.heap.size,4,A f ws.length g))
  (((with_reducible refine HK.o _ ?_);(repeat(first|(with_reducible first|exact A5.o|exact Q1.refl _ _)|with_reducible apply Q1.drew|with_reducible apply Q1.alloc|with_reducible refine Q23 ?_))))
  (first
   |((go_at_call 175;(with_reducible refine(Q0e W.drew _ d (A4.o _ o.o) u).mono ?_);rintro e w1 ⟨v1,rfl,C,H⟩;obtain⟨F,G,rfl⟩:=V6 C;have E:=qh (Q0 o.o H);have A7:=qh (C.lo (show W.heap.size<=W.drew from o.o.size));have J:=qh (Qf m.o E);have A5:=D (Q1 (λc=>c=w+1) W w1) (Ay E);obtain⟨⟨K,L,M,O,P⟩,sf⟩:=Yf J;have A8:w.heap.size+1<w1.heap.size:=Ap A3 E.o.size;clear C H))
   |((go_at_call 175;(with_reducible refine(Q0e ((W.alloc (.cells cur 40)).drew) _ d (A4.o _ p.o) u).mono ?_);rintro e w1 ⟨v1,rfl,C,H⟩;obtain⟨F,G,rfl⟩:=V6 C;have E:=qh (Q0 p.o H);have A9:=qh (Qy7.agentB y.o C (((A2.o W).new rfl).kept (w':=(W.alloc (.cells cur 40)).drew) (Ai _ _).drew) H p.o.size);have J:=qh (Qf m.o E);have A5:=D (Q1 (λc=>c=w+1) W w1) (Ay E);obtain⟨⟨K,L,M,O,P⟩,sf⟩:=Yf J;have A8:w.heap.size+1<w1.heap.size:=Ap A3 E.o.size;clear C H))
   |fail)
 all_goals(go_wp2_with fail)
 ·have S:=Q0c w1 (w+1) 0 (I Z k) (I Z l) (I Z v) (A F d.length G) (A (R (w1,0)) n n)
  have q:=Q2u J (I Z k) (I Z l) (I Z v) (A F d.length G) (A (R (w1,0)) n n);have hx:=Z3 q (o':=.cells cur 40);have hz:(Qg7 w1 (w+1) 0 (I Z k) (I Z l) (I Z v) (A F d.length G) (A (R (w1,0)) n n)).heap.size=w1:=by simp[Qg7,World.setCell]
  have hM:=A2.o (Qg7 w1 (w+1) 0 (I Z k) (I Z l) (I Z v) (A F d.length G) (A (R (w1,0)) n n));have hN:=A7.o.frame S (λi V=>by omega);have hB:=E.o.size;have hA:=Qy7.agentA y.o hN (hM.new rfl) ((Ai _ _).alloc (Aj _) _) (by rw[hz];exact hB);rw[hz]at hA;have AA:=a.o;refine Ce (v:=.agg #[I Z k,I Z l,I Z v,A F d.length G,A (R (w1,0)) n n]) (by obtain⟨⟨K,L,M,O,P⟩,-⟩:=Yf hx;simp[results,results274,go_sem,K,L,M,O,P]) rfl ?_;refine⟨[_,_,_,_,_],rfl, ?_,j.o.trans (((Ay E).trans (S.alloc _)).below (by omega) (λc r=>Fu (by have h:c=w+1:=r;omega)))⟩;rw[z.o];exact hA.lo (by omega)
 have S:=Q0c w1 (w+1) 0 (I Z k) (I Z l) (I Z v) (A F d.length G) (A (R (W,0)) n n);have q:=Q2u J (I Z k) (I Z l) (I Z v) (A F d.length G) (A (R (W,0)) n n);have AA:=a.o;refine Ce (v:=.agg #[I Z k,I Z l,I Z v,A F d.length G,A (R (W,0)) n n]) (by obtain⟨⟨K,L,M,O,P⟩,-⟩:=Yf q;simp[results,results274,go_sem,K,L,M,O,P]) rfl ?_;refine⟨[_,_,_,_,_],rfl, ?_,j.o.trans (((Ay E).trans S).below (by omega) (λc r=>Fu (by have h:c=w+1:=r;omega)))⟩;rw[z.o];exact(A9.o.frame S (λi V=>by omega)).lo (by omega)
def Q9m{L w M S g m l}(h:Qn L M g 0 w m S l)(E P)(n:Nat)(f)(a s:Int)(t u i)(j:0<=a/\a<n)(hs:0<s/\s<=1000)(O:w.cell? (E,P+a.toNat)=R (I Z i))(T:E∉S.all/\E≠g)(A5:0<=i)(hi:i<(mC m))(o:i.toNat∉l)(hk:s-1<(aW (Q7 (mC m) i)).length)(p:Qyn t)(r:Qyn u):
  Bv prog 276 #[(g,0),.agg #[a,s],.agg #[t,u],A (R (E,P)) n f] w λe w'=>e=.returned (.tuple #[])/\Qn L M g 0 w' (Qm m i (s-1) (t,u)) S l/\Q1 (λc=>c∈S.all) w w':=by
 obtain⟨k,v⟩:∃k:Nat,(s-1).toNat=k:=⟨_,rfl⟩;have x:(k:Int)=s-1:=by omega
 have U:k<(aW (Q7 (mC m) i)):=by omega
 obtain⟨B,ow,y,X,⟨H,Y,b⟩,z,F⟩:=h.wordB (i:=i) (k:=k) (by omega) o U;obtain⟨_,_,d,-,-,-,-,-,-,-,-⟩:=h.mem.head;have A6:=h.mem.blk.lt;have A7:=h.mem.lt _ (Aa _ H);have A0:=Ac w _ O;have A8:=h.mem.cells.blk.lt;have A1:=h.mem.cells.bound;unfold Bu at A1;simp only at A0;have A2:=D (∀V,Bp w w V->Qn L M g 0 ((V.setCell (B,ow+k * 2) t).setCell (B,ow+k * 2+1) u) (Qm m i (s-1) (t,u)) S l) (λV G=>by unfold Qm;rw[v];exact(F V G).2.2.2 t u p r);have A3:=D (∀V,Bp w w V->(∃u,V.cell? (B,ow+k * 2)=R u)/\(∃u,V.cell? (B,ow+k * 2+1)=R u)/\(∀q,V.frozen? ⟨B,q,N⟩=Bm)) (λV G=>⟨(F V G).1,(F V G).2.1,(F V G).2.2.1⟩);have HN:=qh (Cj H (Cj Y b));have A9:IntKind.i64.wrap (s-1)=s-1:=by simp only[IntKind.wrap_i64];omega
 have AA:(s==0)=Bm:=by rw[beq_eq_false_iff_ne];omega
 have AB:(0:Int)<=s-1:=by omega
 have AC:=D (E≠B) (λe=>T.1 (e▸H));generalize hwl:(aW (Q7 (mC m) i))=wl at *
 have AD:s-1<(wl:Int):=by omega
 have AE:wl<=y:=z;obtain⟨AF,AG⟩:=j;clear F hwl h H Y b x U T;go_enter func276,ntmps276;go_upto_region 1 with fail
 refine Qp λW J=> ?_;have C:=D (w,W) (by rw[J];go_grown);have K:=Jt w #[a,s] #[t,u] 207 40;rw[<-J]at K;obtain⟨⟨p0,p1⟩,-⟩:=Zj K.1;obtain⟨⟨x0,x1⟩,-⟩:=Zj K.2;have d:=jC C d;have O:=jC C O;have X:=jC C X;obtain⟨⟨z0,AH⟩,⟨z1,AI⟩,AJ⟩:=A3.o W C;have A4:=D (W.heap.size=w+2) (by rw[J];simp);have AK:B<W:=by have:=A4.o;omega
 clear J K;go_upto_region 3 with fail
 go_region
 go_wp2_with fail
 go_end0
 refine⟨rfl,(A2.o W C).drew, ?_⟩;have hf:Q1 (λc=>c=B) W (((W.setCell (B,ow+k * 2) t).setCell (B,ow+k * 2+1) u).drew):=(Q23 (Q23 (Q1.refl _ _))).drew;exact(Ay C).trans (hf.mono λc hc=>by have e:c=B:=hc;rw[e];exact HN.o.1)
def Qkw{n:Qy0}{l}(h:Yd n=Bn)(O:0<=l)(L:Q05 n l=Bn):Yd (J8 n l)=Bn:=by
 obtain⟨-,P,-,-⟩:=Yl h;unfold Yd at h⊢;simp only[Bi]at h⊢;refine⟨?_, ?_⟩
 ·have C:=h.1
  unfold Jr at C⊢;simp only[Bi]at C⊢;rw[J3];refine⟨C.1, ?_⟩;rw[Bf];intro i H;have J:=List.mem_range.1 H;have F:=Bf.1 C.2 i H;simp only[Bi]at F⊢;rw[Q6x];refine⟨?_,F.2⟩;have B:=F.1;have E:=Bf.1 L (Q9 n i) (by rw[Qy J];exact As J);generalize Q9 n i=x at *
  unfold Yb at B⊢;simp only[Bi]at B⊢;refine⟨⟨B.1.1, ?_⟩,B.2⟩;have K:=B.1.2;have M:Zf (aK x)=Bn->aL x+l<=8:=λG=>by unfold Qxr at E;rw[G]at E;simpa using E
  clear E;simp only[aK,aL]at K M⊢;unfold Zm at K⊢;rcases Bool.eq_false_or_eq_true (Zf x.1)with G|G
  ·grind[Qj]
  grind
 grind[Q4d,Q0x,Q12,Q3o,Q7,J8,Q8t]
def Qo1{n:Qy0}(h:Yd n=Bn){i:Nat}(B:i<n):(aK (Q9 n i)==1)=((i:Int)==0):=by
 unfold Yd Jr at h;grind
def Qry{w}(b o)(n:List Qb)(h:At Jl w b o n)(q:Yd n=Bn):
  Bv prog 278 #[(b,o)] w λe w'=>∃v,e=.returned v/\Qxu Q5 143 w w' v (Y5 n)/\(w,w'):=by
 obtain⟨⟨AJ,AK⟩,A3,-,-⟩:=Yl q;obtain⟨p,c,c0,hc,hm,r⟩:=h.net;have HN:=qh r;have HV:=qh q;have A4:=Ac w _ c0;simp only at A4;clear r h;obtain⟨i0,A5,A6,A7,A8⟩:=Ck Jj;go_enter func278,ntmps278;go_wp2_with fail
 have s:=qh (Qxu.nil (t:=Q5) (e:=143) (B:=w) (w:=w));go_loopw [3,12] (λu i wr=>∃(j:Nat),j<=n/\i=I Z j/\Hd (Qxu Q5 143 w wr u (Q2l n j))/\Hd (w,wr)) (λ_ i _=>n.length-(By i).toNat);case atStart=>exact⟨0,Ak _,rfl,s.o,Ai _ _⟩
 obtain⟨j,hj,rfl,G,H⟩:=hrel;clear s;have A9:=H.o.size;obtain⟨L,O⟩:∃L:List Wd,Q2l n j=L:=⟨_,rfl⟩;rw[O]at G;have y:=qh O;have AA:=D (L.length<=n) (by rw[<-O];exact Au (Q1s n j) hj);clear O;obtain⟨pu,cu,rfl,-,-⟩:=G.o.form;by_cases P:j<n
 ·obtain⟨b1,o1,rfl,X⟩:=Rd.elem (HN.o.kb H) j P
  have Y:=Q1t (A3 j P);have C:=Qo1 HV P;have f:=D (Qe n ((j:Int),0)=(aW (Q9 n j)).getD 0 (0,0)) (by unfold Qe Q7;simp);have S:=D (Q35 n j=(j !=0 && ((Qe n ((j:Int),0)).2==0 && decide ((j:Int)<(Qe n ((j:Int),0)).1)))) (rfl);have T:=D (Q2l n (j+1)=L++(if Q35 n j then [((j:Int),(Qe n (j,0)).1)]else [])) (by rw[Q45,y.o]);rw[<-Qy P]at X;generalize Q9 n j=x at *
  obtain⟨k,l,v,d,ws⟩:=x;simp only[aW,aK]at Y C f;obtain⟨pd,cd,pw,cw,⟨g,z,e2,e3,e4⟩,-,-,⟨-,-,hw⟩⟩:=X.agent;simp only[Ty.sz,Bj]at g z e2 e3 e4;obtain⟨bp,op,rfl,hE⟩:=Rd.elem hw 0 Y;obtain⟨f0,f1,A0,AB⟩:=At.word (t:=ws[0].1) (a:=ws[0].2) hE;simp only[Ty.sz,Bj,Dm,Cw]at f0 f1;have U:=D (Qe n ((j:Int),0)=(ws[0].1,ws[0].2)) (by rw[f.o];exact Q9t Y);have AC:=qh A0;generalize ws[0].1=q0 at *
  generalize ws[0].2=q1 at *
  have AD:=Ac wr _ g;have AE:=Ac wr _ f0;simp only at AD AE;have AL:(j:Int)<n:=by omega
  have AM:(0:Int)<=j:=by omega
  have AN:(0:Int)<ws:=by omega
  clear X hw hE A0 AB f;go_upto_region 6 with fail
  refine Qp λW m=> ?_;have E:=D (wr,W) (by rw[m];go_grown);have V:=Jt wr #[k,l,v,A pd d cd,A (R (bp,op)) ws cw] #[q0,q1] 153 207;rw[<-m]at V;obtain⟨⟨a0,-,-,-,-⟩,-⟩:=Yf V.1;obtain⟨⟨x0,x1⟩,-⟩:=Zj V.2;clear m V g z e2 e3 e4 f0 f1;by_cases F:q1=0
  ·by_cases s1:(j:Int)<q0
   ·by_cases J:k=1
    ·have K:j=0:=by
      have:(k==1)=Bn:=by simpa using J
      rw[this]at C;have:=(beq_iff_eq.1 C.symm);omega
     have M:=D (Q35 n j=Bm) (by rw[S.o,K];rfl);subst J;subst F;clear C K;go_wp2
     go_roundw;case rel=>exact⟨j+1,by omega,by go_num,(G.o.kept E).eqL (by rw[T.o,M.o];simp),(show Bp _ _ _ from Q0 H E)⟩
     simp[By];omega
    have K:j≠0:=λe=>J (by subst e;have:((((0:Nat):Int))==0)=Bn:=rfl;rw[this]at C;exact beq_iff_eq.1 C);have HT:=D (Q35 n j=Bn) (by
     rw[S.o,U.o];have:(j !=0)=Bn:=by simpa using K
     simp[this,F,s1])
    have AO:(k !=1)=Bn:=by simpa using J
    subst F;clear C K J;have AF:w.heap.size<=W:=Au A9 E.o.size;go_wp2_with(at_builtin;refine Q0w W rfl (.tmp 35) (.tmp 40) 41 rfl (t:=Q5) rfl (by decide) w 143 i0 _ 16 underlying41 A5 A6 A7 A8 rfl (by decide) (v:=A pu L cu) (xs:=L) ((j:Int),q0) _ rfl rfl (G.o.kept E) (Q4z (by unfold Qyn;omega) AC) rfl (by have:=AA.o;omega) AF ?_;intro v9 w9 A1 A2 _;have AG:=qh A1;have AH:=qh A2;clear A1 A2)
    go_roundw;case rel=>exact⟨j+1,by omega,by go_num,AG.o.eqL (by rw[T.o,HT.o,U.o];rfl),(show Bp _ _ _ from(Q0 H E).trans AH)⟩
    simp[By];omega
   have M:=D (Q35 n j=Bm) (by rw[S.o,U.o];simp[F,s1]);subst F;clear C;go_wp2
   go_roundw;case rel=>exact⟨j+1,by omega,by go_num,(G.o.kept E).eqL (by rw[T.o,M.o];simp),(show Bp _ _ _ from Q0 H E)⟩
   simp[By];omega
  have M:=D (Q35 n j=Bm) (by rw[S.o,U.o];simp[F]);have AP:(q1==0)=Bm:=by simpa using F
  clear C F;go_wp2
  go_roundw;case rel=>exact⟨j+1,by omega,by go_num,(G.o.kept E).eqL (by rw[T.o,M.o];simp),(show Bp _ _ _ from Q0 H E)⟩
  simp[By];omega
 have AI:n=j:=by omega
 go_wp2
 go_ret;exact⟨_,rfl,G.o.eqL (by rw[<-y.o,Q2i,AI]),H.o⟩
end Go.Proofs.YtcjngpfigpglfaaGreatDoor
