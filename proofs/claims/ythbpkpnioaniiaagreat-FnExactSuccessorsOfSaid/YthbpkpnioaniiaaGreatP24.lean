import Derived.Test.YthbpkpnioaniiaaGreatP23
set_option maxHeartbeats 40000000
set_option maxRecDepth 100000
set_option linter.all false
namespace Go.Proofs.YthbpkpnioaniiaaGreat
open Go.RowKit Go.Proofs.Tryz
open Go.Value renaming int->I,slice->A
open Go.IntKind renaming i64->Z
open Option renaming none->N,some->R
open And renaming intro->Cg
open Go renaming World->Bh,TypeId->Cf,maxLen->Bp,Value->Bk,heap_alloc_new->Bg,info_parts->Ch
open Int renaming toNat_natCast->By
open List renaming length_cons->Bs,range->Bz,not_mem_nil->Ed
open Nat renaming reduceAdd->Bj,add_zero->Cq
theorem Qgn{w:Bh}{g:Nat}{T:Cf}{a b c d C E F G:Int}(h:w.heap[g]?=R (.cells #[I Z a,I Z b,I Z c,I Z d,I Z C,I Z E,I Z F,I Z G] T (0,0)))(B:(Qqm a/\Qqm b/\Qqm c/\Qqm d)/\Qqm C/\Qqm E/\Qqm F/\Qqm G):Ow (.slice Qu) w [A (R ⟨g,0,N⟩) 2 2] [((a,b),(c,d)),((C,E),(F,G))] [g]:=
 ⟨_,rfl,.inr ⟨g,0,2,_,T,[[],[]],rfl,Aj _,by simp[Bp],h,by simp[Ty.sz],by simp,rfl,λi H=>by
  match i,H with
  |0,_=>exact Ow.link B.1.1 B.1.2.1 B.1.2.2.1 B.1.2.2.2
  |1,_=>exact Ow.link B.2.1 B.2.2.1 B.2.2.2.1 B.2.2.2.2⟩⟩
def Q45(n:Nat)(m:Qqp)(l:List Nat)(L:List Int):Prop:=∀a∈L,∃q:Nat,a=(q:Int)/\q<(mC m).length/\q∉l/\(aW (Qn (mC m) q)).length=n
theorem Q45.word{n:Nat}{m:Qqp}{l:List Nat}{L:List Int}(h:Q45 n m l L)(i k:Int)(x:Wd):Q45 n (Qh m i k x) l L:=λa E=>by
 obtain⟨q,F,G,H,C⟩:=h a E;refine⟨q,F,by unfold Qh;rw[Qf1];exact G,H, ?_⟩;by_cases e:i.toNat=q
 ·have J:i.toNat<(mC m).length:=by omega
  have B:=Q48 m i ((aW (Q7 (mC m) i)).set k.toNat x) J;unfold Q7 at B;rw[e]at B;unfold Qh Q7;rw[e,B,List.length_set];exact C
 ·have:=Q5a m i (q:Int) ((aW (Q7 (mC m) i)).set k.toNat x) (by rw[By];exact e)
  unfold Q7 at this;rw[By]at this;unfold Qh Q7;rw[this];exact C
theorem Q7k{m:Qqp}{a:Nat}(B:mF m=(a:Int))(y:Qb)(q:Nat):Qn (mC (Qj m y)) q=if a=q/\q<(mC m).length then y else Qn (mC m) q:=by
 have:=Y8 m y (q:Int);unfold Q7 at this;rw[B,By,By]at this;exact this
theorem Q45.take{n:Nat}{m:Qqp}{a:Nat}{l:List Nat}{L:List Int}(h:Q45 n m (a::l) L)(E:mF m=(a:Int))(F:a<(mC m).length)(G:a∉l)(y:Qb)(H:(aW y).length=n):Q45 n (Qj m y) l (L++ [(a:Int)]):=λz B=>by
 rcases At0.1 B with B|B
 ·obtain⟨q,J,K,C,M⟩:=h z B
  simp only[List.mem_cons,not_or]at C;refine⟨q,J,by rw[Qd];exact K,C.2, ?_⟩;rw[Q7k E y q,if_neg (λe=>C.1 e.1.symm)];exact M
 ·obtain rfl:z=(a:Int):=by simpa using B
  exact⟨a,rfl,by rw[Qd];exact F,G,by rw[Q7k E y a,if_pos ⟨rfl,F⟩];exact H⟩
theorem Q45.skip{n:Nat}{m:Qqp}{a:Nat}{l:List Nat}{L:List Int}(h:Q45 n m (a::l) L)(C:mF m=(a:Int))(y:Qb):Q45 n (Qj m y) l L:=λz E=>by
 obtain⟨q,F,G,B,H⟩:=h z E;simp only[List.mem_cons,not_or]at B;refine⟨q,F,by rw[Qd];exact G,B.2, ?_⟩;rw[Q7k C y q,if_neg (λe=>B.1 e.1.symm)];exact H
theorem Q45.words{n:Nat}{m:Qqp}{l:List Nat}{L:List Int}(h:Q45 n m l L){i:Int}{ws:List Wd}(E:∀a∈L,a.toNat≠i.toNat):Q45 n (Qa m i ws) l L:=λz B=>by
 obtain⟨q,C,F,G,H⟩:=h z B;refine⟨q,C,by rw[Qf1];exact F,G, ?_⟩;have:=Q5a m i (q:Int) ws (λe=>E z B (by rw[C,e]));unfold Q7 at this;rw[By]at this;rw[this];exact H
def Qg3(e:Ty)(F:List Nat)(w0:Bh)(S:MS)(w:Bh)(v:Bk)(xs:List e.den):Prop:=Ow (.slice e) w [v] xs F/\F.Nodup/\∀b∈F,w0.heap.size<=b/\b∉S.all
theorem Qg3.step{e:Ty}{F:List Nat}{C w w':Bh}{S S':MS}{v:Bk}{xs:List e.den}{X:Nat->Prop}(h:Qg3 e F C S w v xs)(k:Q1 X w w')(hX:∀c,X c->c<C.heap.size\/c∈S.all)(E:∀b∈S'.all,b∈S.all\/w.heap.size<=b):Qg3 e F C S' w' v xs:=by
 obtain⟨o,n,r⟩:=h;refine⟨o.frame k λb B=>⟨o.lt b B,λe=> ?_⟩,n,λb B=>⟨(r b B).1,λG=> ?_⟩⟩
 ·have:=(r b B).1
  rcases hX b e with h|h
  ·omega
  ·exact(r b B).2 h
 ·rcases E b G with h|h
  ·exact(r b B).2 h
  ·have:=o.lt b B;omega
theorem Qpe(w:Bh)(g:Nat)(m:Qqp)(S:MS)(c d:Nat)(l:List Nat)(h:Z8 w g 0 m S)(hl:Yf m (c::d::l))(kx E vx:Int)(dx:List Int)(s x1:Wd)(px qx:Option Addr)(cx ex:Nat)(Gx:List Nat)(CJ:Ow Q3 w [I Z kx,I Z E,I Z vx,A px dx.length cx,A qx 2 ex] (kx,E,vx,dx,[s,x1]) Gx)(CK:∀c∈Gx,c∉g::S.all)
  (L M O:Int) (H:List Int) (B:List Wd) (py qy:Option Addr) (cy ey:Nat) (Gy:List Nat) (CL:Ow Q3 w [I Z L,I Z M,I Z O,A py H.length cy,A qy B.length ey] (L,M,O,H,B) Gy) (CM:∀c∈Gy,c∉g::S.all)
  (CN:3 * B.length<=l.length) (CO:B.length<=1000) (CP:H.length<=100000000) (hC:(mC m).length<=1000000):
  Calls prog 211 #[.pointer (R ⟨g,0,N⟩),.agg #[I Z kx,I Z E,I Z vx,A px dx.length cx,A qx 2 ex],.agg #[I Z L,I Z M,I Z O,A py H.length cy,A qy B.length ey]] w λe w'=>∃v' S' l',e=.returned v'/\Qk w S g 0 w' (Qns m (kx,E,vx,dx,[s,x1]) (L,M,O,H,B)).1 S' l'/\Yy Qu w S' w' v' (Qns m (kx,E,vx,dx,[s,x1]) (L,M,O,H,B)).2:=by
 have AY:=qh (Qk.start h hl);have CQ:=qh CJ;have CR:=qh CL;have A9:=qh h.lt;have ET:=qh CK;have EU:=qh CM;have EV:=qh CN;have HC:g<w.heap.size:=h.blk.lt;clear h hl CJ CL CK CM CN;go_enter func211,ntmps211;go_upto_region 2 with fail
 refine Qq ?_;intro J AA;have CS:D (Below w.heap.size w J):=qh (by rw[AA];go_grown);have EW:J.heap.size=w.heap.size+1+1+1+1:=by rw[AA];simp
 have EX:D (J.heap[w.heap.size]?=R (.cells #[.pointer (R ⟨g,0,N⟩)] 225 (0,0))):=qh (by rw[AA];exact Qw (Qw (Qw (Bg w _))));have EY:D (Q49 Q3 J (w.heap.size+1) 0 (kx,E,vx,dx,[s,x1]) Gx):=qh (by rw[AA];have:=Q49.arg (w:=w.alloc (.cells #[.pointer (R ⟨g,0,N⟩)] 225)) (T:=134) (CQ.o.frame (X:=λ_=>False) ((Q1.refl _ _).alloc _) (λb G=>⟨CQ.o.lt b G,λh=>h⟩));simp only[World.size_alloc]at this;exact this.frame (X:=λ_=>False) (((Q1.refl _ _).alloc _).alloc _) (λ_ _ h=>h));have EZ:D (Q49 Q3 J (w.heap.size+1+1) 0 (L,M,O,H,B) Gy):=qh (by rw[AA];have:=Q49.arg (w:=(w.alloc (.cells #[.pointer (R ⟨g,0,N⟩)] 225)).alloc (.cells #[I Z kx,I Z E,I Z vx,A px dx.length cx,A qx 2 ex] 134)) (T:=134) (CR.o.frame (X:=λ_=>False) (((Q1.refl _ _).alloc _).alloc _) (λb G=>⟨CR.o.lt b G,λh=>h⟩));simp only[World.size_alloc]at this;exact this.frame (X:=λ_=>False) ((Q1.refl _ _).alloc _) (λ_ _ h=>h));have F0:D (J.heap[w.heap.size+1+1+1]?=R (.cells #[I Z B.length] 3 (0,0))):=qh (by rw[AA];have:=Bg (((w.alloc (.cells #[.pointer (R ⟨g,0,N⟩)] 225)).alloc (.cells #[I Z kx,I Z E,I Z vx,A px dx.length cx,A qx 2 ex] 134)).alloc (.cells #[I Z L,I Z M,I Z O,A py H.length cy,A qy B.length ey] 134)) (.cells #[I Z B.length] 3);simp only[World.size_alloc]at this;exact this);have F1:D (Q8i ((w.heap.size+1)::Gx) g S):=qh (λc Y=>by
  rcases Aq.1 Y with rfl|Y
  ·exact λhm=>by have:=A9.o _ hm;omega
  ·exact ET.o c Y)
 have F2:D (Q8i ((w.heap.size+1+1)::Gy) g S):=qh (λc Y=>by
  rcases Aq.1 Y with rfl|Y
  ·exact λhm=>by have:=A9.o _ hm;omega
  ·exact EU.o c Y)
 obtain⟨AZ,B0,HD,HE,iy,F3,F4,BJ⟩:=EZ.o.facts F2.o;obtain⟨HF,HG,HH,CT,ix,-,F5,BK⟩:=EY.o.facts F1.o;simp only[Nat.zero_add,Bs,List.length_nil,Bj]at BJ BK;have B1:=qh BJ;have B2:=qh BK;have CU:=qh iy;have F6:=qh ix;have BL:=qh (AY.o.below CS.o);have F7:=qh (Qk.start BL.o.mem BL.o.free);have HI:w.heap.size+1<J.heap.size:=by omega
 have HJ:w.heap.size+1+1<J.heap.size:=by omega
 have F8:w.heap.size<J.heap.size:=by omega
 have F9:w.heap.size+1+1+1<J.heap.size:=by omega
 have AM:D (S.cb<w.heap.size):=qh (A9.o _ (Aa _ Ae));unfold Bp at F3 F4 F5;have BM:D (∀V,Q1 (λc=>c=g\/c∈S.all) J V->V.cell? ⟨w.heap.size,0,N⟩=R (.pointer (R ⟨g,0,N⟩))/\V.cell? ⟨w.heap.size+1+1+1,0,N⟩=R (I Z B.length)):=qh (λV C=>by have n1:¬(w.heap.size=g\/w.heap.size∈S.all):=λe=>e.elim (λe=>by omega) (λe=>by have:=A9.o _ (Aa _ e);omega);have n2:¬(w.heap.size+1+1+1=g\/w.heap.size+1+1+1∈S.all):=λe=>e.elim (λe=>by omega) (λe=>by have:=A9.o _ (Aa _ e);omega);exact⟨(C.cell F8 n1 0).trans (Q8 EX.o rfl),(C.cell F9 n2 0).trans (Q8 F0.o rfl)⟩);have CV:D (∀b,b=w.heap.size\/b=w.heap.size+1+1\/b=w.heap.size+1+1+1->b≠g/\b≠S.cb):=qh (λb G=>by have:=AM.o;omega);clear BJ BK iy ix AA EW;obtain⟨t0,t1⟩:=BM.o J (Q1.refl _ _);obtain⟨⟨y0,y1,y2,y3,y4⟩,CW,-⟩:=B1.o J (Q1.refl _ _);have CX:=qh CW;have CY:=qh (Cg y0 (Cg y1 (Cg y2 y3)));have HT:=qh (Cg t0 t1);clear CW;go_upto_region 4 with((go_at_call 250;(with_reducible refine(Qk6 J J g m S S c (d::l) F7.o w.heap.size (w.heap.size+1+1) (w.heap.size+1+1+1) B.length L M O H AZ N B0 0 0 HT.o.1 HT.o.2 CY.o CX.o CU.o CP CO CV.o).mono ?_);rintro e w1 ⟨rfl,G1,hs,hg,C⟩;have AF:=qh hs;have FA:=qh hg;have FB:=qh C;clear hs hg C))
 have BN:=qh (BM.o w1 AF.o.fr)
 have BO:=qh (show(w1.cell? ⟨w.heap.size+1+1,0,N⟩=R (I Z L)/\w1.cell? ⟨w.heap.size+1+1,1,N⟩=R (I Z M)/\w1.cell? ⟨w.heap.size+1+1,2,N⟩=R (I Z O)/\w1.cell? ⟨w.heap.size+1+1,3,N⟩=R (A AZ H.length B0))/\Rd (.slice .int) w1 [A AZ H.length B0] H from
  have h:=B1.o w1 AF.o.fr;⟨⟨h.1.1,h.1.2.1,h.1.2.2.1,h.1.2.2.2.1⟩,h.2.1⟩)
 go_upto_region 5 with((go_at_call 250;(with_reducible refine(Qk6 J w1 g _ S _ d l AF.o w.heap.size (w.heap.size+1+1) (w.heap.size+1+1+1) B.length L M O H AZ N B0 0 0 BN.o.1 BN.o.2 BO.o.1 BO.o.2 CU.o CP CO CV.o).mono ?_);rintro e w2 ⟨rfl,G2,hs,hg,C⟩;have AB:=qh hs;clear hs hg C))
 have CZ:=Jw.nodup AY.o.free;simp only[List.nodup_cons,List.mem_cons,not_or]at CZ;obtain⟨⟨BP,AN⟩,BQ,-⟩:=CZ;have B3:D (mF m=(c:Int)/\c<(mC m).length):=qh (⟨(AY.o.first Z5).1,(AY.o.first Z5).2.1⟩);have AO:D (mF (Qj m (L,M,O,H,Jj B.length))=(d:Int)/\d<(mC (Qj m (L,M,O,H,Jj B.length))).length):=qh (⟨(AF.o.first Z5).1,(AF.o.first Z5).2.1⟩);have BR:D (Qns m (kx,E,vx,dx,[s,x1]) (L,M,O,H,B)=(Bz B.length).foldl (Vu B E (c:Int) (d:Int)) (Qj (Qj m (L,M,O,H,Jj B.length)) (L,M,O,H,Jj B.length),[(s,((1:Int),(c:Int))),(x1,((1:Int),(d:Int)))])):=qh (by unfold Qns;simp only[aK,aL,aV,aD,aW];rw[show mF m=(c:Int)from B3.o.1,show mF (Qj m (L,M,O,H,Jj B.length))=(d:Int)from AO.o.1];rfl);have FC:D (Q45 B.length (Qj (Qj m (L,M,O,H,Jj B.length)) (L,M,O,H,Jj B.length)) l [(c:Int),(d:Int)]):=qh (by
  have hz:(aW (L,M,O,H,Jj B.length)).length=B.length:=by simp[aW,Jj]
  have h0:Q45 B.length m (c::d::l) []:=λ_ h=>(Ed h).elim;have h1:=h0.take B3.o.1 B3.o.2 (by simp only[List.mem_cons,not_or];exact⟨BP,AN⟩) (L,M,O,H,Jj B.length) hz;exact h1.take AO.o.1 AO.o.2 BQ (L,M,O,H,Jj B.length) hz)
 have FD:D ((mC (Qj (Qj m (L,M,O,H,Jj B.length)) (L,M,O,H,Jj B.length))).length=(mC m).length):=qh (by rw[Qd,Qd]);have D0:D (Qqm (c:Int)/\Qqm (d:Int)):=qh (⟨by have:=B3.o.2;unfold Qqm;omega,by have:=AO.o.2;rw[Qd]at this;unfold Qqm;omega⟩);have HK:D (c∉l/\d∉l/\c≠d):=qh (⟨AN,BQ,BP⟩);clear AO AF FA FB BN BO CY CX HT y0 y1 y2 y3 y4 t0 t1 BP AN BQ;generalize Qj (Qj m (L,M,O,H,Jj B.length)) (L,M,O,H,Jj B.length)=m2 at *
 generalize (S.put (c:Int) G1).put (d:Int) G2=S2 at *
 obtain⟨bx,ox,B4,D1⟩:=Rd.elem (B2.o _ AB.o.fr).2.2 0 (by simp);obtain⟨HL,HM,BS,D2⟩:=Rd.elem (B2.o _ AB.o.fr).2.2 1 (by simp);rw[B4]at BS;simp only[Option.some.injEq,Addr.mk.injEq,and_true]at BS;obtain⟨rfl,rfl⟩:=BS;obtain⟨e0,e1,D3,D4⟩:=At.word (t:=s.1) (a:=s.2) D1;obtain⟨e2,e3,D5,D6⟩:=At.word (t:=x1.1) (a:=x1.2) D2;obtain⟨⟨-,B5,-,-,x4⟩,-,-⟩:=B2.o _ AB.o.fr;rw[B4]at x4;have HN:=qh B4;simp only[Ty.sz,Bj,Nat.zero_mul,Nat.one_mul,Cq]at e0 e1 e2 e3;have B6:=qh (Cg (Cg D3 D4) (Cg D5 D6));have FE:D (∀V,Below w2.heap.size w2 V->V.cell? ⟨w.heap.size+1,4,N⟩=R (A (R ⟨bx,ox,N⟩) 2 CT)/\V.cell? ⟨bx,ox,N⟩=R (I Z s.1)/\V.cell? ⟨bx,ox+1,N⟩=R (I Z s.2)/\V.cell? ⟨bx,ox+2,N⟩=R (I Z x1.1)/\V.cell? ⟨bx,ox+3,N⟩=R (I Z x1.2)):=qh (λV G=>Qar G x4 e0 e1 e2 e3);have D7:D (Below w2.heap.size w2 w2.drew):=qh ((Ai _ _).drew);have HP:(1:Int)<2:=by omega
 clear D1 D2 D3 D4 D5 D6 B4 e0 e1 e2 e3 x4 B5;go_cut [11] (λu wq=>∃b:Nat,u=A (R ⟨b,0,N⟩) 2 2/\w2.heap.size<=b/\wq.heap[b]?=R (.cells #[I Z s.1,I Z s.2,I Z 1,I Z c,I Z x1.1,I Z x1.2,I Z 1,I Z d] 232 (0,0))/\Below w2.heap.size w2 wq)
 case first=>
  go_region_held3(λV=>V.cell? ⟨w.heap.size+1,4,N⟩=R (A (R ⟨bx,ox,N⟩) 2 CT)/\V.cell? ⟨bx,ox,N⟩=R (I Z s.1)/\V.cell? ⟨bx,ox+1,N⟩=R (I Z s.2)/\V.cell? ⟨bx,ox+2,N⟩=R (I Z x1.1)/\V.cell? ⟨bx,ox+3,N⟩=R (I Z x1.2))
   (((with_reducible refine FE.o _ ?_);(first|with_reducible exact AC.o|with_reducible exact AC.o.alloc AC.o.size _|with_reducible exact D8.o|with_reducible exact D7.o|fail)))
   (first
    |((go_at_call 246;(with_reducible refine(Q01 w3 _).mono ?_);rintro e wf ⟨rfl,G⟩;have AC:=qh (Q0 D8.o G);clear G))
    |((go_at_call 246;(with_reducible refine(Q01 w2.drew _).mono ?_);rintro e w3 ⟨rfl,G⟩;have D8:=qh (Q0 D7.o G);clear G))
    |fail)
  all_goals(go_wp2_with fail;go_meet)
  all_goals exact⟨_,rfl,AC.o.size,Bg wf _,AC.o.alloc AC.o.size _⟩
 case rest=>
  obtain⟨bq,rfl,D9,hq,AG⟩:=hcut;have DA:=qh (AB.o.below AG);have AC:=qh AG
  have DB:=qh (show Yy Qu J S2 wc (A (R ⟨bq,0,N⟩) 2 2) [(s,((1:Int),(c:Int))),(x1,((1:Int),(d:Int)))]from
   ⟨[bq],Qgn hq ⟨⟨B6.o.1.1,B6.o.1.2,by unfold Qqm;omega,D0.o.1⟩,B6.o.2.1,B6.o.2.2,by unfold Qqm;omega,D0.o.2⟩,by simp,λb G=>by
    obtain rfl:b=bq:=by simpa using G
    exact⟨Au AB.o.fr.size D9,λhm=>by have:=AB.o.mem.lt _ (Aa _ hm);omega⟩⟩)
  clear hq AG D9 AB;obtain⟨o,ho⟩:∃o:List Qqt,o=[(s,((1:Int),(c:Int))),(x1,((1:Int),(d:Int)))]:=⟨_,rfl⟩;have FF:D (o.length=2):=qh (by rw[ho];rfl);rw[<-ho]at DB BR;have HO:=qh ho;obtain⟨i0,FG,FH,FI,FJ⟩:=Ch Qb1;obtain⟨⟨-,-,-,-,y4⟩,-,-⟩:=B1.o _ DA.o.fr;have HQ:∀W:Bh,(Instr.makeSlice 132 (I Z 2) (I Z 2)).run prog W=.ok (A (R ⟨W.heap.size,0,N⟩) 2 2) (W.alloc (.cells #[I Z 0,I Z 0,I Z 0,I Z 0] 40)):=λW=>by have hm:madeCells (Value.agg #[I Z 0,I Z 0]).cells (2 * 2)=#[I Z 0,I Z 0,I Z 0,I Z 0]:=Array.toList_inj.1 ((Q7o 2).trans rfl);have:=Q69 W 2 (by omega);rw[hm]at this;exact this
  clear ho;go_wp2_with fail
  go_loopw [11,43] (λu i wr=>∃(j:Nat) (S':MS) (l':List Nat),j<=B.length/\i=I Z j/\D (Qk J S g 0 wr ((Bz j).foldl (Vu B E (c:Int) (d:Int)) (m2,o)).1 S' l')/\D (Yy Qu J S' wr u ((Bz j).foldl (Vu B E (c:Int) (d:Int)) (m2,o)).2)/\D (3 * B.length<=l'.length+3 * j)/\D (Q45 B.length ((Bz j).foldl (Vu B E (c:Int) (d:Int)) (m2,o)).1 l' [(c:Int),(d:Int)])/\D (((Bz j).foldl (Vu B E (c:Int) (d:Int)) (m2,o)).2.length=2+j)/\D ((mC ((Bz j).foldl (Vu B E (c:Int) (d:Int)) (m2,o)).1).length=(mC m).length)) (λ_ i _=>B.length-(intOf i).toNat);case atStart=>exact⟨0,S2,l,Ak _,rfl,DA.o,DB.o,EV.o,FC.o,FF.o,FD.o⟩
  case round=>
   obtain⟨j,S',l',hj,rfl,HS,AP,DC,AH,DD,DE⟩:=hrel;have HR:=HS.o.fr.size;by_cases B7:j<B.length
   ·obtain⟨f,u,v,l3,rfl⟩:∃f u v l3,l'=f::u::v::l3:=by
     match l',(show 3<=l'.length by have:=DC.o;omega)with
     |f::u::v::l3,_=>exact⟨f,u,v,l3,rfl⟩
    have AQ:D ((Bz (j+1)).foldl (Vu B E (c:Int) (d:Int)) (m2,o)=Vu B E (c:Int) (d:Int) ((Bz j).foldl (Vu B E (c:Int) (d:Int)) (m2,o)) j):=qh (by rw[List.range_succ,List.foldl_append];rfl);generalize (Bz j).foldl (Vu B E (c:Int) (d:Int)) (m2,o)=Fj at *
    obtain⟨z,oj⟩:=Fj;have HS:D (Qk J S g 0 wr z S' (f::u::v::l3)):=qh (HS.o);have AH:D (Q45 B.length z (f::u::v::l3) [(c:Int),(d:Int)]):=qh (AH.o);obtain⟨pu,cu,rfl⟩:=AP.o.form;obtain⟨Fo,DF⟩:=AP.o;have DG:=qh DF;obtain⟨bw,ow,FK,hE⟩:=Rd.elem (B1.o _ HS.o.fr).2.2 j B7;obtain⟨f0,f1,DH,DI⟩:=At.word (t:=B[j].1) (a:=B[j].2) hE;have FL:=qh (Q7u B7);generalize B[j].1=wt at *
    generalize B[j].2=wa at *
    subst FK;simp only[Ty.sz,Bj]at f0 f1;have DJ:=qh (Cg DH DI);have HU:(0:Int)<=j:=by omega
    have HV:(j:Int)<B.length:=by omega
    clear DF hE DH DI;go_upto_region 9 with fail
    refine Qq ?_;intro P AR;have BT:D (Below wr.heap.size wr P):=qh (by rw[AR];go_grown);have DK:P.heap[wr.heap.size]?=R (.cells #[I Z wt,I Z wa] 40 (0,0)):=by rw[AR];exact Bg wr _
    have BU:=qh DK;have DL:P.heap.size=wr.heap.size+1:=by rw[AR];simp
    have DM:=qh DL;have B8:=qh (HS.o.below BT.o);clear AR DK f0 f1 DL;have AI:D (∀V,Q1 (λc=>c=g\/c∈S.all) J V->V.cell? ⟨w.heap.size,0,N⟩=R (.pointer (R ⟨g,0,N⟩))/\V.cell? ⟨w.heap.size+1,1,N⟩=R (I Z E)):=qh (λV C=>⟨(BM.o V C).1,(B2.o V C).1.2.1⟩);have FM:=qh B8.o.mem.lt;have FN:=qh HS.o.mem.lt;have BV:D (Below P.heap.size P ((P.alloc (.cells #[I Z 0,I Z 0,I Z 0,I Z 0] 40)).drew)):=qh (((Ai _ _).alloc (Aj _) _).drew);have BW:=qh (B8.o.below BV.o);have DN:D (Ow Q3 ((P.alloc (.cells #[I Z 0,I Z 0,I Z 0,I Z 0] 40)).drew) [I Z 4,I Z E,I Z 0,A N 0 0,A (R ⟨P.heap.size,0,N⟩) 2 2] (4,E,0,[],[(0,0),(0,0)]) ([]++ [P.heap.size])):=qh (Ow.mkAgent (by unfold Qqm;omega) F6.o.2.1 (by unfold Qqm;omega) (Ow.nil _) (Qgi (T:=40) (Bg P _) (by unfold Qqm;omega) (by unfold Qqm;omega) (by unfold Qqm;omega) (by unfold Qqm;omega)));have BX:D (∀q∈([]++ [P.heap.size]:List Nat),J.heap.size<=q/\q∉g::S'.all):=qh (λq hq=>by
     obtain rfl:q=P.heap.size:=by simpa using hq
     exact⟨by have:=DM.o;omega,λhm=>by have:=FM.o _ hm;omega⟩)
    have DO:D (([]++ [P.heap.size]:List Nat).Nodup):=qh (by simp);have DP:=qh (B8.o.drew)
    go_region_held3(λV=>V.cell? ⟨w.heap.size,0,N⟩=R (.pointer (R ⟨g,0,N⟩))/\V.cell? ⟨w.heap.size+1,1,N⟩=R (I Z E))
     (((with_reducible refine AI.o _ ?_);(first|with_reducible exact AD.o.fr|with_reducible exact BW.o.fr|with_reducible exact DP.o.fr|fail)))
     ((go_at_call 242;(with_reducible refine(Q4k BW.o 4 E 0 N (R ⟨P.heap.size,0,N⟩) 0 0 2 2 (4,E,0,[],[(0,0),(0,0)]) ([]++ [P.heap.size]) DN.o DO.o (λq hq=>(BX.o q hq).2) (λq hq=>(BX.o q hq).1)).mono ?_);rintro e' w9 ⟨rfl,hs,C⟩;have AD:=qh hs;have B9:=qh ((Ay (X:=λc=>c=g\/c=S.cb) BV.o).trans C);clear hs C))
    have DQ:=qh (AI.o _ AD.o.fr);obtain⟨t9,-⟩:=DQ.o;have BY:D (∀q∈(S'.put (f:Int) ([]++ [P.heap.size])).all,q=P.heap.size\/q∈S'.all):=qh (λq hq=>(Zf hq).imp (λh=>by simpa using h) id);have DR:=qh AD.o.mem.lt;go_upto_region 11 with((go_at_call 244;(with_reducible refine(Q62 AD.o).mono ?_);rintro e' U ⟨rfl,hs,C⟩;have BA:=qh hs;have AE:=qh C;clear hs C))
    refine Qq ?_;intro BB BZ;have BC:D (Below U.heap.size U BB):=qh (by rw[BZ];go_grown);have DS:BB.heap[U.heap.size]?=R (.cells #[I Z 2,I Z u] 40 (0,0)):=by rw[BZ];exact Bg U _
    have C0:=qh DS;have C1:=qh (BA.o.below BC.o);clear BZ DS;obtain⟨FO,-⟩:=AI.o _ C1.o.fr;go_upto_region 12 with((go_at_call 244;(with_reducible refine(Q62 C1.o).mono ?_);rintro e' p ⟨rfl,hs,C⟩;have DT:=qh hs;have A5:=qh C;clear hs C))
    refine Qq ?_;intro A0 C2;have AS:D (Below p.heap.size p A0):=qh (by rw[C2];go_grown);have DU:A0.heap[p.heap.size]?=R (.cells #[I Z 2,I Z v] 40 (0,0)):=by rw[C2];exact Bg p _
    have C3:=qh DU;have A2:=qh (DT.o.below AS.o);clear C2 DU;have FP:w9.heap.size<=U.heap.size:=AE.o.size;have FQ:U.heap.size<BB.heap.size:=Zb C0.o;have HW:BB.heap.size<=p.heap.size:=A5.o.size;have FR:p.heap.size<A0.heap.size:=Zb C3.o;have AR:P.heap.size<=w9.heap.size:=B9.o.size;have FT:wr.heap.size<P.heap.size:=Zb BU.o;have DV:D (∀b∈(((S'.put (f:Int) ([]++ [P.heap.size])).put (u:Int) []).put (v:Int) []).all,b≠wr.heap.size/\b<U.heap.size):=qh (λb G=>by
     have h9:b∈(S'.put (f:Int) ([]++ [P.heap.size])).all:=(Zf G).elim (λh=>by simp at h) (λh=>(Zf h).elim (λh=>by simp at h) id);refine⟨λe=> ?_,Ap (DR.o _ (Aa _ h9)) FP⟩;rcases BY.o b h9 with h|h
     ·omega
     ·have:=FN.o _ (Aa _ h);omega)
    have FU:=qh A2.o.cb;have FV:D (A0.heap[wr.heap.size]?=R (.cells #[I Z wt,I Z wa] 40 (0,0))):=qh (by have A6:¬(wr.heap.size=g\/wr.heap.size=S.cb):=λe=>e.elim (λe=>by omega) (λe=>by have:=AM.o;omega);have e1:=(B9.o.block wr.heap.size FT A6).trans BU.o;have e2:=(AE.o.block wr.heap.size (by omega) A6).trans e1;have e3:=Qe e2 BC.o;have e4:=(A5.o.block wr.heap.size (by omega) A6).trans e3;exact Qe e4 AS.o);have DW:D (A0.heap[U.heap.size]?=R (.cells #[I Z 2,I Z u] 40 (0,0))):=qh (by have A6:¬(U.heap.size=g\/U.heap.size=S.cb):=λe=>e.elim (λe=>by omega) (λe=>by have:=AM.o;omega);exact Qe ((A5.o.block U.heap.size FQ A6).trans C0.o) AS.o);have FW:D (Q1 (λc=>c=g\/c=S.cb) wr A0):=qh ((Ay BT.o).trans (B9.o.trans (AE.o.trans ((Ay BC.o).trans (A5.o.trans (Ay AS.o))))));have FX:D (Qg3 Qu Fo J (((S'.put (f:Int) ([]++ [P.heap.size])).put (u:Int) []).put (v:Int) []) A0 (A pu oj.length cu) oj):=qh (by
     refine Qg3.step DG.o FW.o (λc Y=> ?_) (λb G=> ?_)
     ·exact .inl (Y.elim (λe=>by omega) (λe=>by have:=AM.o;omega))
     ·have h9:b∈(S'.put (f:Int) ([]++ [P.heap.size])).all:=(Zf G).elim (λh=>by simp at h) (λh=>(Zf h).elim (λh=>by simp at h) id)
      exact(BY.o b h9).elim (λh=> .inr (by omega)) .inl)
    have AJ:D (mF z=(f:Int)/\f<(mC z).length/\f∉l3):=qh (⟨(HS.o.first Z5).1,(HS.o.first Z5).2.1,λe=>(Ar.1 (Jw.nodup HS.o.free)).1 (Aa _ (Aa _ e))⟩);have C4:D (mF (Qj z (4,E,0,[],[(0,0),(0,0)]))=(u:Int)/\u<(mC z).length):=qh (⟨(AD.o.first Z5).1,by have:=(AD.o.first Z5).2.1;rw[Qd]at this;exact this⟩);have C5:D (mF (Qv (Qj z (4,E,0,[],[(0,0),(0,0)])))=(v:Int)/\v<(mC z).length):=qh (⟨(BA.o.first Z5).1,by have:=(BA.o.first Z5).2.1;unfold Qv at this;rw[Qd,Qd]at this;exact this⟩);have FY:D (Q45 B.length (Qv (Qv (Qj z (4,E,0,[],[(0,0),(0,0)])))) l3 [(c:Int),(d:Int)]):=qh (((AH.o.skip AJ.o.1 _).skip C4.o.1 _).skip C5.o.1 _);have C6:D ((mC (Qv (Qv (Qj z (4,E,0,[],[(0,0),(0,0)]))))).length=(mC z).length):=qh (by unfold Qv;rw[Qd,Qd,Qd]);have FZ:D (c≠f/\d≠f):=qh (by obtain⟨q,h1,-,h3,-⟩:=AH.o (c:Int) (by simp);obtain⟨q',HX,-,DX,-⟩:=AH.o (d:Int) (by simp);simp only[List.mem_cons,not_or]at h3 DX;exact⟨λe=>h3.1 (by omega),λe=>DX.1 (by omega)⟩);have AT:D (Vu B E (c:Int) (d:Int) (z,oj) j=(Qh (Qh (Qa (Qv (Qv (Qj z (4,E,0,[],[(0,0),(0,0)])))) (f:Int) [(2,(u:Int)),(2,(v:Int))]) (c:Int) j (2,(u:Int))) (d:Int) j (2,(v:Int)),oj++ [((wt,wa),((1:Int),(f:Int)))])):=qh (by unfold Vu;simp only[];rw[AJ.o.1,C4.o.1,C5.o.1,FL.o]);have G0:D ((mC z).length<=1000000):=qh (by have h1:(mC z).length=(mC m).length:=DE.o;omega);have AU:D (Qqm (u:Int)/\Qqm (v:Int)/\Qqm (f:Int)):=qh (by have:=G0.o;have:=AJ.o.2.1;have:=C4.o.2;have:=C5.o.2;unfold Qqm;omega);clear AD B9 BA AE C1 DT A5 BC AS C0 DQ DR BY B8 BW DN BX DO DP BV BT BU t9 FO DM AP AH;generalize Qv (Qv (Qj z (4,E,0,[],[(0,0),(0,0)])))=m3 at *
    generalize ((S'.put (f:Int) ([]++ [P.heap.size])).put (u:Int) []).put (v:Int) []=S3 at *
    go_cut [14] (λx wx=>x=I Z f/\∃K,D (Qk J S g 0 wx (Qa m3 (f:Int) [((2:Int),(u:Int)),(2,(v:Int))]) K l3)/\D (Qg3 Qu Fo J K wx (A pu oj.length cu) oj)/\D (wx.heap[wr.heap.size]?=R (.cells #[I Z wt,I Z wa] 40 (0,0)))/\D (wx.heap[U.heap.size]?=R (.cells #[I Z 2,I Z u] 40 (0,0)))/\D (wx.heap[p.heap.size]?=R (.cells #[I Z 2,I Z v] 40 (0,0)))/\D (∀b∈K.all,b≠wr.heap.size/\b≠U.heap.size/\b≠p.heap.size)/\A0.heap.size<=wx.heap.size)
    case first=>
     obtain⟨pf,cf,HY,HZ,I0,G3,G4,AG,DY⟩:=A2.o.focusN (i:=f) (by rw[C6.o];exact AJ.o.2.1) AJ.o.2.2;have G5:=qh DY;have G6:=qh AG;clear G3 G4 AG DY;obtain⟨_,_,c0,-,-,-,-,-,-,-,-⟩:=A2.o.mem.head;have DZ:=A2.o.mem.cells.bound;unfold Bp at DZ;obtain⟨I1,I2⟩:=DZ;obtain⟨G7,I3⟩:=A2.o.mem.ne;have I4:=λq=>A2.o.mem.cells.blk.free q;obtain⟨⟨u0,u1⟩,-⟩:=Za DW.o;obtain⟨⟨v0,v1⟩,-⟩:=Za C3.o;have I5:=A2.o.mem.blk.lt;have AN:=A2.o.mem.cells.blk.lt;have I6:S3.cb<w.heap.size:=by rw[FU.o];exact AM.o
     have C7:U.heap.size≠S3.cb:=by omega
     have C8:p.heap.size≠S3.cb:=by omega
     have G8:wr.heap.size≠S3.cb:=by omega
     have G9:w.heap.size≠S3.cb:=by omega
     have GA:=(AI.o _ A2.o.fr).1;have I7:(0:Int)<=f:=by omega
     have I8:(f:Int)<(mC m3).length:=by have:=C6.o;have:=AJ.o.2.1;omega
     have GB:D (∀V,Q1 (λc=>c=S3.cb) A0 V->V.cell? ⟨w.heap.size,0,N⟩=R (.pointer (R ⟨g,0,N⟩))/\V.cell? ⟨g,0,N⟩=R (A (R ⟨S3.cb,S3.o,N⟩) (mC m3).length S3.cap)/\V.cell? ⟨U.heap.size,0,N⟩=R (I Z 2)/\V.cell? ⟨U.heap.size,1,N⟩=R (I Z u)/\V.cell? ⟨p.heap.size,0,N⟩=R (I Z 2)/\V.cell? ⟨p.heap.size,1,N⟩=R (I Z v)):=qh (λV C=>⟨Qf C GA G9,Q4w C c0 u0 u1 v0 v1 G7 C7 C7 C8 C8⟩);have A7:=qh (((Ze A0 S3.cb (S3.o+f * 5+4) (A (R ⟨A0.heap.size,0,N⟩) 2 2)).alloc (.cells #[I Z 2,I Z u,I Z 2,I Z v] 40)).drew)
     go_region_held3(λV=>V.cell? ⟨w.heap.size,0,N⟩=R (.pointer (R ⟨g,0,N⟩))/\V.cell? ⟨g,0,N⟩=R (A (R ⟨S3.cb,S3.o,N⟩) (mC m3).length S3.cap)/\V.cell? ⟨U.heap.size,0,N⟩=R (I Z 2)/\V.cell? ⟨U.heap.size,1,N⟩=R (I Z u)/\V.cell? ⟨p.heap.size,0,N⟩=R (I Z 2)/\V.cell? ⟨p.heap.size,1,N⟩=R (I Z v))
      (((with_reducible refine GB.o _ ?_);(first|exact A7.o|(repeat(first|with_reducible exact Q1.refl _ _|with_reducible apply Q1.drew|with_reducible apply Q1.alloc)))))
      (first|fail)
     go_wp2_with fail
     go_meet;have C9:=G5.o (A0.alloc (.cells #[I Z 2,I Z u,I Z 2,I Z v] 40)) (R ⟨A0.heap.size,0,N⟩) 2 2 [((2:Int),(u:Int)),(2,(v:Int))] [A0.heap.size] ((Q1.refl _ _).alloc _) (Q8w (Bg A0 _) (by unfold Qqm;omega) AU.o.1 (by unfold Qqm;omega) AU.o.2.1) rfl (by simp) (λb G=> .inr (by simp at G;omega));rw[World.setCell_alloc_past _ _ _ _ AN]at C9;have A8:D (Qk J S g 0 _ _ _ _):=qh (C9.1.drew);have CA:=qh (FX.o.step A7.o (λc Y=> .inl (by omega)) C9.2.1.2.2.2);have BD:=qh ((A7.o.block p.heap.size FR C8).trans C3.o);have CB:=qh ((A7.o.block U.heap.size (by omega) C7).trans DW.o);have BE:=qh ((A7.o.block wr.heap.size (by omega) G8).trans FV.o);exact⟨rfl,_,A8.o,CA.o,BE.o,CB.o,BD.o,(show∀b∈_,_ from λb G=>by
      rcases Zf G with h|h
      ·rcases At0.1 h with h|h
       ·have:=DV.o b (G6.o _ (Ag _ h)).1;omega
       ·simp at h;omega
      ·have:=DV.o b h;omega),A7.o.size⟩
    case rest=>
     obtain⟨rfl,K,A8,CA,BE,CB,BD,E0,I9⟩:=hcut;rename Bh=>W12
     have E1:D (Q45 B.length (Qa m3 (f:Int) [((2:Int),(u:Int)),(2,(v:Int))]) l3 [(c:Int),(d:Int)]):=qh (FY.o.words (λa ha=>by have h:=FZ.o;simp only[List.mem_cons,Ed,or_false]at ha;rcases ha with rfl|rfl<;>omega));have GC:D ((mC (Qa m3 (f:Int) [((2:Int),(u:Int)),(2,(v:Int))])).length=(mC m3).length):=qh (Qf1 _ _ _);generalize Qa m3 (f:Int) [((2:Int),(u:Int)),(2,(v:Int))]=m4 at *
     obtain⟨qc,IA,GD,GE,E2⟩:=E1.o (c:Int) (by simp);obtain rfl:c=qc:=by omega
     obtain⟨bc,oc,kc,BF,⟨AV,E3,E4⟩,GF,E5⟩:=A8.o.wordB (i:=(c:Int)) (k:=j) (by rw[By];exact GD) (by rw[By];exact GE) (by unfold Q7;rw[By,E2];exact B7);have GG:(aW (Q7 (mC m4) (c:Int))).length=B.length:=by unfold Q7;rw[By];exact E2
     rw[GG]at BF GF;simp only[By]at BF;have CC:=qh (Cg AV (Cg E3 E4));have AW:=qh (E0.o bc AV);have IB:D ((mC m4).length<=9223372036854775807):=qh (by have h:=A8.o.mem.cells.bound;unfold Bp at h;omega);obtain⟨⟨IC,GH⟩,⟨ID,GI⟩,GJ,E6⟩:=E5 W12 (Ai _ _);have GK:=qh E6;obtain⟨_,_,E7,-,-,-,-,-,-,-,-⟩:=A8.o.mem.head;have E8:=(AI.o _ A8.o.fr).1;obtain⟨⟨E9,B5⟩,-⟩:=Za CB.o;have GL:w.heap.size≠bc:=λe=>by have h:=AW.o;have hh:=A8.o.fresh.2.2.2 bc AV;exact hh.elim (λhh=>by have:=A9.o _ (Aa _ hh);omega) (λhh=>by omega)
     have GM:D (∀V,Q1 (λc=>c=bc) W12 V->V.cell? ⟨w.heap.size,0,N⟩=R (.pointer (R ⟨g,0,N⟩))/\V.cell? ⟨g,0,N⟩=R (A (R ⟨K.cb,K.o,N⟩) (mC m4).length K.cap)/\V.cell? ⟨K.cb,K.o+c * 5+4,N⟩=R (A (R ⟨bc,oc,N⟩) B.length kc)/\V.cell? ⟨U.heap.size,0,N⟩=R (I Z 2)/\V.cell? ⟨U.heap.size,1,N⟩=R (I Z u)):=qh (λV C=>⟨Qf C E8 GL,Qf C E7 (λe=>CC.o.2.1 e.symm),Qf C BF (λe=>CC.o.2.2 e.symm),Qf C E9 (λe=>AW.o.2.1 e.symm),Qf C B5 (λe=>AW.o.2.1 e.symm)⟩);have IE:bc<W12.heap.size:=A8.o.mem.lt _ (Aa _ AV);have IF:(0:Int)<=c:=by omega
     have IG:(c:Int)<(mC m4).length:=by omega
     clear E6 E5 E8 E7 BF E9 B5 AV E3 E4;go_upto_region 13 with fail
     go_region_held3(λV=>V.cell? ⟨w.heap.size,0,N⟩=R (.pointer (R ⟨g,0,N⟩))/\V.cell? ⟨g,0,N⟩=R (A (R ⟨K.cb,K.o,N⟩) (mC m4).length K.cap)/\V.cell? ⟨K.cb,K.o+c * 5+4,N⟩=R (A (R ⟨bc,oc,N⟩) B.length kc)/\V.cell? ⟨U.heap.size,0,N⟩=R (I Z 2)/\V.cell? ⟨U.heap.size,1,N⟩=R (I Z u))
      (((with_reducible refine GM.o _ ?_);(repeat(first|with_reducible exact Q1.refl _ _|with_reducible apply Q1.drew|with_reducible refine Q16 ?_))))
      (first|fail)
     refine Qq ?_;intro AK CD;have CE:D (Q1 (λc=>c=bc) W12 AK):=qh (by rw[CD];(repeat(first|with_reducible exact Q1.refl _ _|with_reducible apply Q1.drew|with_reducible refine Q16 ?_)));have AL:D (Qk J S g 0 AK (Qh m4 (c:Int) j (2,(u:Int))) K l3):=qh (by rw[CD];exact(GK.o 2 u (by unfold Qqm;omega) AU.o.1).drew);have EA:=qh (E1.o.word (c:Int) j (2,(u:Int)));have EB:=qh ((CE.o.block wr.heap.size (Zb BE.o) (λe=>AW.o.1 e.symm)).trans BE.o);have GN:=qh (Qg3.step (X:=λc=>c=bc) CA.o CE.o (λc Y=> .inr (by rw[Y];exact CC.o.1)) (λb G=> .inl G));clear CD GH GI GJ;have GO:=qh ((CE.o.block p.heap.size (Zb BD.o) (λe=>AW.o.2.2 e.symm)).trans BD.o);obtain⟨qd,IH,GP,GQ,EC⟩:=EA.o (d:Int) (by simp);obtain rfl:d=qd:=by omega
     obtain⟨bd,od,kd,BG,⟨AX,ED,EE⟩,GR,EF⟩:=AL.o.wordB (i:=(d:Int)) (k:=j) (by rw[By];exact GP) (by rw[By];exact GQ) (by unfold Q7;rw[By,EC];exact B7);have GS:(aW (Q7 (mC (Qh m4 (c:Int) j (2,(u:Int)))) (d:Int))).length=B.length:=by unfold Q7;rw[By];exact EC
     rw[GS]at BG GR;simp only[By]at BG;have CF:=qh (Cg AX (Cg ED EE));have BH:=qh (E0.o bd AX);have II:D ((mC (Qh m4 (c:Int) j (2,(u:Int)))).length<=9223372036854775807):=qh (by have h:=AL.o.mem.cells.bound;unfold Bp at h;omega);obtain⟨⟨IJ,GT⟩,⟨IK,GU⟩,GV,EG⟩:=EF AK (Ai _ _);have GW:=qh EG;obtain⟨_,_,EH,-,-,-,-,-,-,-,-⟩:=AL.o.mem.head;have EI:=(AI.o _ AL.o.fr).1;obtain⟨⟨EJ,EK⟩,-⟩:=Za GO.o;have GX:w.heap.size≠bd:=λe=>by have h:=BH.o;have hh:=AL.o.fresh.2.2.2 bd AX;exact hh.elim (λhh=>by have:=A9.o _ (Aa _ hh);omega) (λhh=>by omega)
     have GY:D (∀V,Q1 (λc=>c=bd) AK V->V.cell? ⟨w.heap.size,0,N⟩=R (.pointer (R ⟨g,0,N⟩))/\V.cell? ⟨g,0,N⟩=R (A (R ⟨K.cb,K.o,N⟩) (mC (Qh m4 (c:Int) j (2,(u:Int)))).length K.cap)/\V.cell? ⟨K.cb,K.o+d * 5+4,N⟩=R (A (R ⟨bd,od,N⟩) B.length kd)/\V.cell? ⟨p.heap.size,0,N⟩=R (I Z 2)/\V.cell? ⟨p.heap.size,1,N⟩=R (I Z v)):=qh (λV C=>⟨Qf C EI GX,Qf C EH (λe=>CF.o.2.1 e.symm),Qf C BG (λe=>CF.o.2.2 e.symm),Qf C EJ (λe=>BH.o.2.2 e.symm),Qf C EK (λe=>BH.o.2.2 e.symm)⟩);have IL:bd<AK.heap.size:=AL.o.mem.lt _ (Aa _ AX);have IM:(0:Int)<=d:=by omega
     have IN:(d:Int)<(mC (Qh m4 (c:Int) j (2,(u:Int)))).length:=by omega
     clear EG EF EI EH BG EJ EK AX ED EE;go_upto_region 14 with fail
     go_region_held3(λV=>V.cell? ⟨w.heap.size,0,N⟩=R (.pointer (R ⟨g,0,N⟩))/\V.cell? ⟨g,0,N⟩=R (A (R ⟨K.cb,K.o,N⟩) (mC (Qh m4 (c:Int) j (2,(u:Int)))).length K.cap)/\V.cell? ⟨K.cb,K.o+d * 5+4,N⟩=R (A (R ⟨bd,od,N⟩) B.length kd)/\V.cell? ⟨p.heap.size,0,N⟩=R (I Z 2)/\V.cell? ⟨p.heap.size,1,N⟩=R (I Z v))
      (((with_reducible refine GY.o _ ?_);(repeat(first|with_reducible exact Q1.refl _ _|with_reducible apply Q1.drew|with_reducible refine Q16 ?_))))
      (first|fail)
     refine Qq ?_;intro A3 CG;have EL:D (Q1 (λc=>c=bd) AK A3):=qh (by rw[CG];(repeat(first|with_reducible exact Q1.refl _ _|with_reducible apply Q1.drew|with_reducible refine Q16 ?_)));have CH:D (Qk J S g 0 A3 (Qh (Qh m4 (c:Int) j (2,(u:Int))) (d:Int) j (2,(v:Int))) K l3):=qh (by rw[CG];exact(GW.o 2 v (by unfold Qqm;omega) AU.o.2.1).drew);have GZ:=qh (EA.o.word (d:Int) j (2,(v:Int)));have EM:=qh ((EL.o.block wr.heap.size (Zb EB.o) (λe=>BH.o.1 e.symm)).trans EB.o);have A4:=qh (Qg3.step (X:=λc=>c=bd) GN.o EL.o (λc Y=> .inr (by rw[Y];exact CF.o.1)) (λb G=> .inl G));clear CG GT GU GV;have H0:D (∀q∈Fo,q<wr.heap.size):=qh (DG.o.1.lt);have EN:=Za EM.o;have EO:=Zb EM.o;have H1:D (∀V,Q1 (λc=>c∈Fo) A3 V->V.cell? ⟨wr.heap.size,0,N⟩=R (I Z wt)/\V.cell? ⟨wr.heap.size,1,N⟩=R (I Z wa)):=qh (λV C=>by
      have A6:wr.heap.size∉Fo:=λe=>by have:=H0.o _ e;omega
      exact⟨(C.cell EO A6 _).trans EN.1.1,(C.cell EO A6 _).trans EN.1.2⟩)
     have H2:D (Below A3.heap.size A3 A3.drew):=qh ((Ai _ _).drew);have H3:D (Q1 (λc=>c∈Fo) A3 A3.drew):=qh ((Q1.refl _ _).drew);have H4:=qh CH.o.mem.lt;have IP:=CH.o.fr.size;go_upto_region 15 with fail
     go_region_held3(λV=>V.cell? ⟨wr.heap.size,0,N⟩=R (I Z wt)/\V.cell? ⟨wr.heap.size,1,N⟩=R (I Z wa))
      (((with_reducible refine H1.o _ ?_);(first|with_reducible exact A7.o|with_reducible exact A5.o|with_reducible exact AE.o|with_reducible exact H3.o|fail)))
      (first
       |((go_at_call 246;(with_reducible refine(Q01 _ (f:Int)).mono ?_);rintro e' A1 ⟨rfl,G⟩;have BI:=qh (Q0 H2.o G);have AE:D (Q1 (λc=>c∈Fo) A3 A1):=qh (Ay BI.o);have H5:=qh ((CH.o.below BI.o).below (show Below A1.heap.size A1 (A1.alloc (.cells #[I Z wt,I Z wa,I Z 1,I Z f] 232))from(Ai _ _).alloc (Aj _) _));have A5:=qh (AE.o.alloc (.cells #[I Z wt,I Z wa,I Z 1,I Z f] 232));have IQ:=BI.o.size;clear G))
       |((refine Y6 _ rfl (.tmp 99) (.tmp 104) 228 rfl (e:=Qu) 232 i0 _ 32 underlying228 FG FH FI FJ rfl (by decide) (v:=A pu oj.length cu) (xs:=oj) (y:=((wt,wa),((1:Int),(f:Int)))) (vs:=[I Z wt,I Z wa,I Z 1,I Z f]) (F:=Fo) A1.heap.size 1 rfl rfl (A4.o.1.kept λq hq=>(Az _ _ _ (by have:=A4.o.1.lt q hq;omega)).trans (BI.o.block q (A4.o.1.lt q hq))) A4.o.2.1 (Ow.link DJ.o.1 DJ.o.2 (by unfold Qqm;omega) AU.o.2.2) (Q81 (Q8 (Bg A1 _) rfl) (Q8 (Bg A1 _) rfl) (Q8 (Bg A1 _) rfl) (Q8 (Bg A1 _) rfl)) Qi2 (by have h9:oj.length=2+j:=DD.o;omega) ?_;intro IR IS IT H6 EP EQ ER CI;have H7:=qh EP;have H8:=qh EQ;have H9:=qh ER;have HA:=qh (H5.o.other CI (λc Y=>⟨λhm=>(Aq.1 hm).elim (λe'=>by have:=(A4.o.2.2 c Y).1;omega) (λh=>(A4.o.2.2 c Y).2 h),(A4.o.2.2 c Y).1⟩));have A7:=qh (A5.o.trans CI);clear EP EQ ER CI))
       |fail)
     go_wp2_with fail
     go_roundw;case rel=>
      refine⟨j+1,K,l3,by omega,by go_num,(show Qk _ _ _ _ _ _ _ _ from ?_),(show Yy _ _ _ _ _ _ from ?_),(show _<=_ by have:=DC.o;simp only[Bs]at this;omega),(show Q45 _ _ _ _ from ?_),(show _=_ from ?_),(show _=_ from ?_)⟩
      ·rw[AQ.o,AT.o];exact HA.o
      ·rw[AQ.o,AT.o]
       exact⟨H6,H7.o,H8.o,λq hq=>(H9.o q hq).elim (λh=>⟨(A4.o.2.2 q h).1,(A4.o.2.2 q h).2⟩) (λe'=>by
        have h4:q=A1.heap.size+1:=by simpa using e'
        exact⟨by omega,λhm=>by have:=H4.o q (Aa _ hm);omega⟩)⟩
      ·rw[AQ.o,AT.o];exact GZ.o
      ·rw[AQ.o,AT.o];show(oj++ [_]).length=_;rw[List.length_append];have h9:oj.length=2+j:=DD.o;rw[h9];simp;omega
      ·rw[AQ.o,AT.o]
       have Y:=GC.o;show(mC (Qh (Qh m4 (c:Int) j (2,(u:Int))) (d:Int) j (2,(v:Int)))).length=_;unfold Qh;rw[Qf1,Qf1,Y,C6.o];exact DE.o
     case measure=>simp[intOf];omega
   ·have ES:j=B.length:=by omega
    have HB:=qh ES;have IU:¬((j:Int)<B.length):=by omega
    clear ES;go_wp2_with fail
    go_ret;rw[HB.o]at HS AP;refine⟨_,rfl,S',⟨l', ?_⟩, ?_⟩
    ·rw[BR.o];exact Qk.trans BL.o HS.o
    ·rw[BR.o]
     obtain⟨F,o',n,r⟩:=AP.o;exact⟨F,o',n,λb G=>⟨Au CS.o.size (r b G).1,(r b G).2⟩⟩
theorem Qhr(w:Bh)(b o c:Nat)(F G:Bk)(H:w.cell? ⟨b,o,N⟩=R F)(J:w.cell? ⟨b,o+1,N⟩=R G)(K:∀q,w.frozen? ⟨b,q,N⟩=false)(L:Cf):
  (Builtin.clear_ #[41] L #[A (R ⟨b,o,N⟩) 1 c]).run prog w=.ok (.tuple #[]) ((w.setCell ⟨b,o,N⟩ (I Z 0)).setCell ⟨b,o+1,N⟩ (I Z 0)):=by
 have B:=run_storeCells_cells (P:=prog) b o [I Z 0,I Z 0] 0 w (λj C=>by
  match j,C with
  |0,_=>simp[H]
  |1,_=>simp[J]) (λj C=>K _) (by intro v E;simp only[List.mem_cons,Ed,or_false]at E;rcases E with rfl|rfl<;>rfl)
 simp only[Cq]at B;have M:prog.underlying 41=R (.slice 117):=underlying41;obtain⟨U,O,S,V,W⟩:=Ch J4;have T:(Builtin.zeroCells (Value.agg #[I Z 0,I Z 0]).cells 1).toList=[I Z 0,I Z 0]:=by have:=Q7o 1;simp[Builtin.zeroCells,Value.cells];rfl
 simp[Builtin.clear_,run_underlying M,zeroValue,typeInfo,O,S,T,B,World.setCells]
theorem Qkw(w:Bh)(b o k B:Nat)(E F:Bk)(S:k+1<=B)(G:B<=Bp)(H:w.cell? ⟨b,o+k * 2,N⟩=R E)(J:w.cell? ⟨b,o+k * 2+1,N⟩=R F)(K:∀q,w.frozen? ⟨b,q,N⟩=false):
  Calls prog 209 #[A (R ⟨b,o,N⟩) (k+1) B,I Z k,I Z ((k:Int)+1)] w λe w'=>e=.returned (A (R ⟨b,o,N⟩) k B)/\w'=((w.setCell ⟨b,o+k * 2,N⟩ (I Z 0)).setCell ⟨b,o+k * 2+1,N⟩ (I Z 0)).drew:=by
 unfold Bp at G;have T:(0:Int)<=k:=by omega
 have U:(k:Int)<=(k:Int)+1:=by omega
 have V:(k:Int)+1<=B:=by omega
 have X:((k:Int)==(k:Int)+1)=false:=by rw[beq_eq_false_iff_ne];omega
 have Y:((k:Int)+1).toNat=k+1:=by omega
 have d:(k:Int)<=B:=by omega
 have f:(0:Int)<=(k:Int)+1:=by omega
 obtain⟨L,M,g,h,i⟩:=Ch J4;have j:∀(W:Bh) (C:Cf) (a:Addr) (c:Nat),(Builtin.append_ #[41,41] C #[A (R ⟨b,o,N⟩) k B,A (R a) 0 c]).run prog W=.ok (A (R ⟨b,o,N⟩) k B) W:=λW C a c=>by have:=run_append_room_cells (P:=prog) (w:=W) 41 C 117 L underlying41 M b o k B a 0 c [] (by simp) (by simp) (by simp) (by omega) (by simp) (by simp);simpa[World.setCells]using this
 have l:∀(C:Cf) (c:Nat),(Builtin.clear_ #[41] C #[A (R ⟨b,o+k * 2,N⟩) 1 c]).run prog w.drew=.ok (.tuple #[]) ((w.drew.setCell ⟨b,o+k * 2,N⟩ (I Z 0)).setCell ⟨b,o+k * 2+1,N⟩ (I Z 0)):=λC c=>Qhr w.drew b (o+k * 2) c E F H J K C;by_cases O:B=k+1;case' pos=>subst O
 case' neg=>have m:(B:Int)≠(k:Int)+1:=by omega
 all_goals
  go_enter func209,ntmps209;go_wp2_with fail
  go_region_held3(λ_=>True) (trivial) (first|fail)
  go_wp2_with fail
  go_ret;exact⟨rfl,rfl⟩
end Go.Proofs.YthbpkpnioaniiaaGreat
