import Derived.Test.YthbpkpnioaniiaaGreatP22
set_option maxHeartbeats 40000000
set_option maxRecDepth 100000
set_option linter.all false
namespace Go.Proofs.YthbpkpnioaniiaaGreat
open Go.RowKit Go.Proofs.Tryz
open Go.Value renaming int->I,slice->A
open Go.IntKind renaming i64->Z
open Option renaming none->N,some->R
open Go renaming World->Bh,heap_alloc_new->Bg,madeCells->Dh
open Go.Addr.mk renaming injEq->Ck
open Go.Value renaming agg->Cz
open Int renaming toNat_natCast->By
open List renaming foldl_cons->Ce,range->Bz
open Nat renaming mul_one->Cb,add_zero->Cq,zero_add->Cd,reduceAdd->Bj
open Option.some renaming injEq->Bu
def Q8h(m:Qqp)(l:List Nat)(L:List Int):Prop:=∀a∈L,∃q:Nat,a=(q:Int)/\q<(mC m).length/\q∉l/\(aW (Qn (mC m) q)).length=2
theorem Q8h.word{m:Qqp}{l:List Nat}{L:List Int}(h:Q8h m l L)(i k:Int)(x:Wd):Q8h (Qh m i k x) l L:=λa E=>by
 obtain⟨q,F,G,H,C⟩:=h a E;refine⟨q,F,by unfold Qh;rw[Qf1];exact G,H, ?_⟩;by_cases e:i.toNat=q
 ·have J:i.toNat<(mC m).length:=by omega
  have B:=Q48 m i ((aW (Q7 (mC m) i)).set k.toNat x) J;unfold Q7 at B;rw[e]at B;unfold Qh Q7;rw[e,B,List.length_set];exact C
 ·have:=Q5a m i (q:Int) ((aW (Q7 (mC m) i)).set k.toNat x) (by rw[By];exact e)
  unfold Q7 at this;rw[By]at this;unfold Qh Q7;rw[this];exact C
theorem Q8h.take{m:Qqp}{a:Nat}{l:List Nat}{L:List Int}(h:Q8h m (a::l) L)(G:mF m=(a:Int))(E:a<(mC m).length)(H:a∉l)(y:Qb)(J:(aW y).length=2):Q8h (Qj m y) l (L++ [(a:Int)]):=λz B=>by
 have F:∀q:Nat,Qn (mC (Qj m y)) q=if a=q/\q<(mC m).length then y else Qn (mC m) q:=λq=>by have:=Y8 m y (q:Int);unfold Q7 at this;rw[G,By,By]at this;exact this
 rcases At0.1 B with B|B
 ·obtain⟨q,K,M,C,O⟩:=h z B
  simp only[List.mem_cons,not_or]at C;refine⟨q,K,by rw[Qd];exact M,C.2, ?_⟩;rw[F q,if_neg (λe=>C.1 e.1.symm)];exact O
 ·obtain rfl:z=(a:Int):=by simpa using B
  exact⟨a,rfl,by rw[Qd];exact E,H,by rw[F a,if_pos ⟨rfl,E⟩];exact J⟩
theorem Q89(m:Qqp)(l:Int)(xs:List Wd)(B:Wd):∀n,(Q15 m l xs B n).2.length=n
 |0=>rfl
 |n+1=>by simp[Q15,Q89 m l xs B n]
theorem Qjy(m:Qqp)(l:Int)(xs:List Wd)(B:Wd):∀n,mX (Q15 m l xs B n).1=mX m
 |0=>rfl
 |n+1=>by show mX (Q15 m l xs B n).1=_;exact Qjy m l xs B n
theorem Qle(m:Qqp)(l:Int)(xs:List Wd)(B:Wd):∀n,(mC (Q15 m l xs B n).1).length=(mC m).length
 |0=>rfl
 |n+1=>by simp only[Q15,Qd,Qle m l xs B n]
theorem Qay(B:List Int):∀(l:List Nat) (m:Qqp),mX (l.foldl (Q4o B) m)=mX m
 | [],_=>rfl
 |a::l,m=>by rw[Ce,Qay B l];rfl
theorem Qbj(B:List Int){C:List Nat}{L:List Int}:∀(l:List Nat) (m:Qqp),Q8h m C L->Q8h (l.foldl (Q4o B) m) C L
 | [],_,h=>h
 |a::l,m,h=>by rw[Ce];exact Qbj B l _ (h.word _ _ _)
theorem Qgi{w:Bh}{g:Nat}{T:TypeId}{a b c d:Int}(h:w.heap[g]?=R (.cells #[I Z a,I Z b,I Z c,I Z d] T (0,0)))(B:Qqm a)(C:Qqm b)(E:Qqm c)(F:Qqm d):Ow (.slice Q4) w [A (R ⟨g,0,N⟩) 2 2] [(a,b),(c,d)] [g]:=
 ⟨_,rfl,.inr ⟨g,0,2,_,T,[[],[]],rfl,Aj _,by simp[maxLen],h,by simp[Ty.sz],by simp,rfl,λi G=>by
  match i,G with
  |0,_=>exact Ow.word B C
  |1,_=>exact Ow.word E F⟩⟩
theorem Qk.wordB{F w:Bh}{G S:MS}{pb H:Nat}{m:Qqp}{l:List Nat}(h:Qk F G pb H w m S l){i:Int}(J:i.toNat<(mC m).length)(K:i.toNat∉l){k:Nat}(L:k<(aW (Q7 (mC m) i)).length):
  ∃(B ow C:Nat),w.cell? ⟨S.cb,S.o+i.toNat * 5+4,N⟩=R (A (R ⟨B,ow,N⟩) (aW (Q7 (mC m) i)).length C)/\(B∈S.all/\B≠pb/\B≠S.cb)/\(aW (Q7 (mC m) i)).length<=C/\
   ∀V,Below w.heap.size w V->(∃u,V.cell? ⟨B,ow+k * 2,N⟩=R u)/\(∃u,V.cell? ⟨B,ow+k * 2+1,N⟩=R u)/\(∀q,V.frozen? ⟨B,q,N⟩=false)/\∀t a,Qqm t->Qqm a->Qk F G pb H ((V.setCell ⟨B,ow+k * 2,N⟩ (I Z t)).setCell ⟨B,ow+k * 2+1,N⟩ (I Z a)) (Qa m i ((aW (Q7 (mC m) i)).set k (t,a))) S l:=by
 obtain⟨B,ow,C,M,-,-,T,U,-⟩:=h.wordAt J K L;refine⟨B,ow,C,M,T,U,λV O=> ?_⟩;obtain⟨Y,b,c,E,P,W,-,-,X⟩:=(h.below O).wordAt J K L;rw[(Am O).cell _ _ M]at E;simp only[Bu,Value.slice.injEq,Ck,and_true,true_and]at E;obtain⟨⟨rfl,rfl⟩,-⟩:=E;exact⟨⟨_,P.1⟩,⟨_,P.2⟩,W,X⟩
theorem Qk1(w:Bh)(g:Nat)(m:Qqp)(S:MS)(c:Nat)(l:List Nat)(h:Z8 w g 0 m S)(hl:Yf m (c::l))(d f L:Int)(n:List Int)(B:List Wd)(px qx:Option Addr)(cx ex:Nat)(Gx:List Nat)(BI:Ow Q3 w [I Z d,I Z f,I Z L,A px n.length cx,A qx B.length ex] (d,f,L,n,B) Gx)(BJ:∀c∈Gx,c∉g::S.all)
  (U C p:Int) (J:List Int) (H:List Wd) (py qy:Option Addr) (cy ey:Nat) (Gy:List Nat) (BK:Ow Q3 w [I Z U,I Z C,I Z p,A py J.length cy,A qy H.length ey] (U,C,p,J,H) Gy) (BL:∀c∈Gy,c∉g::S.all)
  (BM:B.length<=l.length) (FA:B.length<=1000) (AB:0<H.length) (BN:0<J.length) (hd:U=10->0<=L/\L<J.length) (AM:U≠10->2<=J.length) (hX:(mX m).length<=1000000) (hC:(mC m).length<=1000000):
  Calls prog 214 #[.pointer (R ⟨g,0,N⟩),.agg #[I Z d,I Z f,I Z L,A px n.length cx,A qx B.length ex],.agg #[I Z U,I Z C,I Z p,A py J.length cy,A qy H.length ey]] w λe w'=>∃v' S' l',e=.returned v'/\Qk w S g 0 w' (Q3j m (d,f,L,n,B) (U,C,p,J,H)).1 S' l'/\Yy Qu w S' w' v' (Q3j m (d,f,L,n,B) (U,C,p,J,H)).2:=by
 have AN:=qh (Qk.start h hl);have D4:=qh BI;have BO:=qh BK;have AY:=qh h.lt;have D5:=qh BJ;have D6:=qh BL;have D7:=qh BM;have FB:g<w.heap.size:=h.blk.lt;clear h hl BI BK BJ BL BM;go_enter func214,ntmps214;go_upto_region 1 with fail
 refine Qq ?_;intro M AC;have D8:D (Below w.heap.size w M):=qh (by rw[AC];go_grown);have D9:M.heap.size=w.heap.size+1+1:=by rw[AC];simp
 have AZ:D (Q49 Q3 M w.heap.size 0 (d,f,L,n,B) Gx):=qh (by rw[AC];exact(Q49.arg D4.o).frame (X:=λ_=>False) ((Q1.refl _ _).alloc _) (λ_ _ h=>h));have BP:D (Q49 Q3 M (w.heap.size+1) 0 (U,C,p,J,H) Gy):=qh (by rw[AC];have:=Q49.arg (w:=w.alloc (.cells #[I Z d,I Z f,I Z L,A px n.length cx,A qx B.length ex] 134)) (T:=134) (BO.o.frame (X:=λ_=>False) ((Q1.refl _ _).alloc _) (λb hb=>⟨BO.o.lt b hb,λh=>h⟩));simpa using this);have DA:D (Q8i (w.heap.size::Gx) g S):=qh (λc W=>by
  rcases Aq.1 W with rfl|W
  ·exact λP=>by have:=AY.o _ P;omega
  ·exact D5.o c W)
 have BQ:D (Q8i ((w.heap.size+1)::Gy) g S):=qh (λc W=>by
  rcases Aq.1 W with rfl|W
  ·exact λP=>by have:=AY.o _ P;omega
  ·exact D6.o c W)
 obtain⟨FC,FD,FE,AD,iy,DB,DC,BR⟩:=BP.o.facts BQ.o;obtain⟨FF,FG,FH,FI,ix,-,DD,BS⟩:=AZ.o.facts DA.o;have AO:=qh BR;have B0:=qh BS;have BT:=qh iy;have FJ:=qh ix;have AP:=qh (AN.o.below D8.o);have BU:=qh (Qk.start AP.o.mem AP.o.free);have FK:w.heap.size<M.heap.size:=by omega
 have FL:w.heap.size+1<M.heap.size:=by omega
 unfold maxLen at DB DC DD;clear BR BS iy ix AC D9;obtain⟨⟨y0,y1,y2,y3,y4⟩,A4,B1⟩:=AO.o M (Q1.refl _ _);obtain⟨⟨x0,x1,x2,x3,x4⟩,DE,DF⟩:=B0.o M (Q1.refl _ _);obtain⟨bd,od,rfl,A1⟩:=Rd.elem A4 0 BN;obtain⟨d0,BV⟩:=At.int A1;simp only[Ty.sz,Cb,Cq,Cd]at d0 y0 y1 y2 y3 y4 x0 x1 x2 x3 x4;have DG:=qh BV;clear A1 BV DE DF;have DH:(0:Int)<J.length:=by omega
 have AQ:D (Q12 (d,f,L,n,B) (U,C,p,J,H)=if U==10 then J.getD L.toNat 0 else if L==0 then J.getD 1 0 else J.getD 0 0):=by show _=_;rfl
 have BW:D (J[0]=J.getD 0 0):=qh (by simp[List.getD_eq_getElem?_getD,BN]);go_upto_if 19 with(fail)
 go_cut [7] (λu DI=>u=I Z (Q12 (d,f,L,n,B) (U,C,p,J,H))/\D (Qqm (Q12 (d,f,L,n,B) (U,C,p,J,H)))/\M=DI)
 case first=>
  by_cases q:U=10
  ·subst q
   obtain⟨e1,e2⟩:=hd rfl;have BX:L.toNat<J.length:=by omega
   obtain⟨DJ,DK,AE,A1⟩:=Rd.elem A4 L.toNat BX;simp only[Bu,Ck,and_true]at AE;obtain⟨rfl,rfl⟩:=AE;obtain⟨dv,AF⟩:=At.int A1;simp only[Ty.sz,Cb]at dv;have HI:=qh AF;have HG:D (Q12 (d,f,L,n,B) (10,C,p,J,H)=J[L.toNat]):=qh (by rw[AQ.o];simp[List.getD_eq_getElem?_getD,BX]);clear A1 AF A4 B1 hd AM;go_wp2_with fail
   go_meet;exact⟨by rw[HG.o],(show Qqm _ by rw[HG.o];exact HI.o),rfl⟩
  ·have qb:(U==10)=false:=by simpa using q
   have h2:=AM q;obtain⟨DJ,DK,AE,A1⟩:=Rd.elem A4 1 h2;simp only[Bu,Ck,and_true]at AE;obtain⟨rfl,rfl⟩:=AE;obtain⟨dv,AF⟩:=At.int A1;simp only[Ty.sz,Cb]at dv;have HI:=qh AF;have FM:(1:Int)<J.length:=by omega
   have HQ:=qh qb;clear A1 AF A4 B1 hd AM q;by_cases z:L=0
   ·subst z
    have HG:D (Q12 (d,f,0,n,B) (U,C,p,J,H)=J[1]):=qh (by rw[AQ.o,HQ.o];show J.getD 1 0=_;rw[Ab,Ad (by omega)];rfl);go_wp2_with fail
    go_meet;exact⟨by rw[HG.o],(show Qqm _ by rw[HG.o];exact HI.o),rfl⟩
   ·have zb:(L==0)=false:=by simpa using z
    have HZ:=qh zb;have HG:D (Q12 (d,f,L,n,B) (U,C,p,J,H)=J[0]):=qh (by rw[AQ.o,HQ.o,HZ.o,BW.o];rfl);go_wp2_with fail
    go_meet;exact⟨by rw[HG.o],(show Qqm _ by rw[HG.o];exact DG.o),rfl⟩
 case rest=>
  obtain⟨rfl,BY,rfl⟩:=hcut;obtain⟨s,B2⟩:∃s,s=Q12 (d,f,L,n,B) (U,C,p,J,H):=⟨_,rfl⟩;rw[<-B2]at BY⊢;have DL:=qh B2.symm;clear B2 AQ BW d0 A4 hd AM DH;have DM:D (Ow Q3 M.drew [I Z 12,I Z C,I Z s,A N 0 0,A N 0 0] (12,C,s,[],[]) []):=qh (Ow.mkAgent (by unfold Qqm;omega) BT.o.2.1 BY.o (Ow.nil _) (Ow.nil _));have BZ:D (∀q∈([]:List Nat),M.heap.size<=q/\q∉g::S.all):=qh (by simp);have C0:D (∀V,Q1 (λc=>c=g\/c∈S.all) M V->V.cell? ⟨w.heap.size+1,1,N⟩=R (I Z C)):=qh (λV O=>(AO.o V O).1.2.1);go_wp2_with fail
  go_region_held3(λV=>V.cell? ⟨w.heap.size+1,1,N⟩=R (I Z C))
   (first|with_reducible exact C0.o _ A2.o.fr|with_reducible exact C0.o _ BU.o.drew.fr|fail)
   ((go_at_call 242;(with_reducible refine(Q4k BU.o.drew 12 C s N N 0 0 0 0 (12,C,s,[],[]) [] DM.o List.nodup_nil (λq Y=>(BZ.o q Y).2) (λq Y=>(BZ.o q Y).1)).mono ?_);rintro e w1 ⟨rfl,hs,O⟩;have A2:=qh hs;clear hs O))
  have AR:D (Q3j m (d,f,L,n,B) (U,C,p,J,H)=if B.length=0 then(Qj m (12,C,s,[],[]),[(H.getD 0 (0,0),((1:Int),(c:Int)))])else(Yu ((Bz (B.length-1)).foldl (Q4o (Q15 (Qj m (12,C,s,[],[])) C B (H.getD 0 (0,0)) B.length).2) (Q15 (Qj m (12,C,s,[],[])) C B (H.getD 0 (0,0)) B.length).1) c ((Q15 (Qj m (12,C,s,[],[])) C B (H.getD 0 (0,0)) B.length).2.getD 0 0),[])):=qh (by unfold Q3j;have e1:=(AN.o.first Z5).1;have e2:Q12 (d,f,L,n,B) (U,C,p,J,H)=s:=DL.o;simp only[e2,e1,aL,aW]);have C1:D (c∉l/\c<(mC (Qj m (12,C,s,[],[]))).length):=qh (⟨(Ar.1 (Jw.nodup AN.o.free)).1,by rw[Qd];exact(AN.o.first Z5).2.1⟩);have B3:D ((mX (Qj m (12,C,s,[],[]))).length<=1000000/\(mC (Qj m (12,C,s,[],[]))).length<=1000000):=qh (⟨hX,by rw[Qd];exact hC⟩);have C2:D (Qqm (c:Int)):=qh (by have h1:=C1.o.2;have h2:=B3.o.2;unfold Qqm;omega);generalize Qj m (12,C,s,[],[])=m1 at *
  generalize S.put (c:Int) []=S1 at *
  obtain⟨⟨-,-,-,-,x4⟩,-,-⟩:=B0.o _ A2.o.fr;have C3:=(AO.o _ A2.o.fr).2.2;obtain⟨by_,r,C4,hE⟩:=Rd.elem C3 0 AB;obtain⟨-,-,C5,C6⟩:=At.word (t:=H[0].1) (a:=H[0].2) hE;have AS:=qh (And.intro C5 C6);have HG:=qh (Q7u AB);have AT:D (∀V,Q1 (λc=>c=g\/c∈S.all) M V->V.cell? ⟨w.heap.size+1,1,N⟩=R (I Z C)/\V.cell? ⟨w.heap.size+1,4,N⟩=R (A (R ⟨by_,r,N⟩) H.length AD)/\V.cell? ⟨by_,r,N⟩=R (I Z H[0].1)/\V.cell? ⟨by_,r+1,N⟩=R (I Z H[0].2)):=qh (λV O=>by obtain⟨⟨-,k1,-,-,k4⟩,-,DN⟩:=AO.o V O;obtain⟨b2,o2,B4,DO⟩:=Rd.elem DN 0 AB;rw[C4]at B4 k4;simp only[Bu,Ck,and_true]at B4;obtain⟨rfl,rfl⟩:=B4;have:=At.word (t:=H[0].1) (a:=H[0].2) DO;simp only[Ty.sz,Bj,Cd,Nat.zero_mul,Cq]at this k4 k1;exact⟨k1,k4,this.1,this.2.1⟩);generalize H[0].1=wt at *
  generalize H[0].2=wa at *
  simp only[Cd]at x4;have FN:(0:Int)<H.length:=by omega
  clear C4 hE C5 C6 C3 B1 y0 y1 y2 y3 y4 x0 x1 x2 x3;by_cases A5:B.length=0
  ·have DP:((B.length:Int)==0)=true:=by simp[A5]
   have AG:D (Q3j m (d,f,L,n,B) (U,C,p,J,H)=(m1,[((wt,wa),((1:Int),(c:Int)))])):=qh (by rw[AR.o,if_pos A5,HG.o]);clear A5;go_upto_region 8 with fail
   have DQ:D (∀V,Below w1.heap.size w1 V->V.cell? ⟨w.heap.size+1,4,N⟩=R (A (R ⟨by_,r,N⟩) H.length AD)/\V.cell? ⟨by_,r,N⟩=R (I Z wt)/\V.cell? ⟨by_,r+1,N⟩=R (I Z wa)):=qh (λV hb=>(AT.o V (A2.o.below hb).fr).2);have C7:D (Below w1.heap.size w1 w1.drew):=qh ((Ai _ _).drew)
   go_region_held3(λV=>V.cell? ⟨w.heap.size+1,4,N⟩=R (A (R ⟨by_,r,N⟩) H.length AD)/\V.cell? ⟨by_,r,N⟩=R (I Z wt)/\V.cell? ⟨by_,r+1,N⟩=R (I Z wa))
    (((with_reducible refine DQ.o _ ?_);(first|with_reducible exact A6.o|with_reducible exact A6.o.alloc A6.o.size _|with_reducible exact C7.o|fail)))
    ((go_at_call 246;(with_reducible refine(Q01 _ (c:Int)).mono ?_);rintro e w5 ⟨rfl,hb⟩;have A6:=qh (Q0 C7.o hb);clear hb))
   go_wp2_with fail
   go_ret;have DR:=A2.o.mem.lt;have FO:=A6.o.size;have FP:=A2.o.fr.size;refine⟨_,S1,l,rfl, ?_, ?_⟩
   ·rw[AG.o];exact Qk.trans AP.o (A2.o.below (A6.o.alloc A6.o.size _))
   ·rw[AG.o]
    refine⟨[w5.heap.size],Qgj (Bg w5 _) AS.o.1 AS.o.2 (by unfold Qqm;omega) C2.o,by simp,λq Y=> ?_⟩;obtain rfl:q=w5.heap.size:=by simpa using Y
    exact⟨by omega,λP=>by have:=DR _ (Aa _ P);omega⟩
  ·have DP:((B.length:Int)==0)=false:=by rw[beq_eq_false_iff_ne];omega
   rw[HG.o]at AR;have AG:D (Q3j m (d,f,L,n,B) (U,C,p,J,H)=(Yu ((Bz (B.length-1)).foldl (Q4o (Q15 m1 C B (wt,wa) B.length).2) (Q15 m1 C B (wt,wa) B.length).1) c ((Q15 m1 C B (wt,wa) B.length).2.getD 0 0),[])):=qh (by rw[AR.o,if_neg A5]);have DS:=qh A5;obtain⟨ii,DT,DU,DV,DW⟩:=info_parts Q3n;clear AR A5;go_wp2_with fail
   go_loopw [9,56] (λu i wr=>∃(j:Nat) (S':MS) (l':List Nat),j<=B.length/\i=I Z j/\D (Qk M S g 0 wr (Q15 m1 C B (wt,wa) j).1 S' l')/\D (Yy .int M S' wr u (Q15 m1 C B (wt,wa) j).2)/\D (B.length<=l'.length+j)/\D (Q8h (Q15 m1 C B (wt,wa) j).1 l' (Q15 m1 C B (wt,wa) j).2)/\D (c∉l')) (λ_ i _=>B.length-(intOf i).toNat);case atStart=>exact⟨0,S1,l,Ak _,rfl,A2.o,Yy.empty,D7.o,(λa ha=>by simp[Q15]at ha),C1.o.1⟩
   case round=>
    obtain⟨j,S',l',hj,rfl,HS,HA,C8,AU,DX⟩:=hrel;have AV:=qh (Q89 m1 C B (wt,wa) j);have C9:=qh (Qle m1 C B (wt,wa) j);have FQ:=HS.o.fr.size;by_cases CA:j<B.length
    ·obtain⟨a,l2,rfl⟩:∃a l2,l'=a::l2:=by
      match l',(show 0<l'.length by have:=C8.o;omega)with
      |a::l2,_=>exact⟨a,l2,rfl⟩
     have B5:D (Q15 m1 C B (wt,wa) (j+1)=(Qj (Q15 m1 C B (wt,wa) j).1 (3,C,0,[],[B.getD j (0,0),(wt,wa)]),(Q15 m1 C B (wt,wa) j).2++ [mF (Q15 m1 C B (wt,wa) j).1])):=qh (rfl);generalize Q15 m1 C B (wt,wa) j=Fj at *
     obtain⟨mj,aj⟩:=Fj;have HS:D (Qk M S g 0 wr mj S' (a::l2)):=qh (HS.o);obtain⟨pa,ca,rfl⟩:=HA.o.form;obtain⟨Fa,CB⟩:=HA.o;have x:=qh CB;have AH:D (mF mj=(a:Int)/\a<(mC mj).length):=qh (⟨(HS.o.first Z5).1,(HS.o.first Z5).2.1⟩);have DY:D (Qqm (a:Int)):=qh (by have h1:=AH.o.2;have h2:(mC mj).length=(mC m1).length:=C9.o;have:=B3.o.2;unfold Qqm;omega);obtain⟨bx,ox,DZ,hE⟩:=Rd.elem (B0.o _ HS.o.fr).2.2 j CA;obtain⟨f0,f1,CC,CD⟩:=At.word (t:=B[j].1) (a:=B[j].2) hE;have E0:=qh (Q7u CA);generalize B[j].1=xt at *
     generalize B[j].2=xa at *
     subst DZ;simp only[Ty.sz,Bj]at f0 f1;have CE:=qh (And.intro CC CD);have E1:(0:Int)<=j:=by omega
     have FR:(j:Int)<B.length:=by omega
     have B6:D (∀G:List Nat,∀q∈(S'.put (a:Int) G).all,q∈G\/q∈S'.all):=qh (λG q P=>Zf P);have CF:=qh HS.o.mem.lt;have B7:D (S.cb<w.heap.size):=qh (AY.o _ (Aa _ Ae));clear CB hE CC CD;go_upto_region 13 with fail
     refine Qq ?_;intro K B8;have CG:D (Below wr.heap.size wr K):=qh (by rw[B8];go_grown);have B9:K.heap[wr.heap.size]?=R (.cells #[I Z xt,I Z xa] 40 (0,0)):=by rw[B8];exact Bg wr _
     obtain⟨⟨k0,k1⟩,-⟩:=Za B9;have CH:wr.heap.size<K.heap.size:=Zb B9;have CI:=qh (HS.o.below CG.o);have CJ:=AT.o K CI.o.fr;have E2:D (∀V,Q1 (λc=>c=g\/c=S.cb\/c∈Fa) K V->(V.cell? ⟨w.heap.size+1,1,N⟩=R (I Z C)/\V.cell? ⟨w.heap.size+1,4,N⟩=R (A (R ⟨by_,r,N⟩) H.length AD)/\V.cell? ⟨by_,r,N⟩=R (I Z wt)/\V.cell? ⟨by_,r+1,N⟩=R (I Z wa))/\V.cell? ⟨wr.heap.size,0,N⟩=R (I Z xt)/\V.cell? ⟨wr.heap.size,1,N⟩=R (I Z xa)):=qh (λV O=>by
      have CK:¬(wr.heap.size=g\/wr.heap.size=S.cb\/wr.heap.size∈Fa):=by
       rintro(e|e|e)
       ·omega
       ·have:=B7.o;omega
       ·have:=x.o.1.lt _ e;omega
      refine⟨?_,(O.cell CH CK _).trans k0,(O.cell CH CK _).trans k1⟩;obtain⟨z1,z2,z3,z4⟩:=CJ;have CL:¬(w.heap.size+1=g\/w.heap.size+1=S.cb\/w.heap.size+1∈Fa):=by
       rintro(e|e|e)
       ·omega
       ·have:=B7.o;omega
       ·have:=(x.o.2.2 _ e).1;omega
      have FT:by_<M.heap.size:=Ac M ⟨by_,r,N⟩ (AT.o M (Q1.refl _ _)).2.2.1;have AI:¬(by_=g\/by_=S.cb\/by_∈Fa):=by
       obtain⟨us,h1,h2,h3,h4⟩:=BP.o;obtain⟨FU,FV,FW,FX,Gd,Gw,rfl,rfl,FY,E3,i1,i2,i3⟩:=h3.agent;have e4:=(AT.o M (Q1.refl _ _)).2.1;have e5:=(Q4b h2).2.2.2.2;simp only[Cd]at e5;rw[e4]at e5;simp only[Bu,Value.slice.injEq]at e5;have P:=E3.block0 e5.1.symm (λe=>by have h7:H=[]:=e;rw[h7]at AB;simp at AB);have CM:=BQ.o by_ (Aa _ (Af _ P));rintro(e|e|e)
       ·exact CM (e▸Ae)
       ·exact CM (Aa _ (Q19 e))
       ·have:=(x.o.2.2 _ e).1;omega
      exact⟨Qf O z1 CL,Qf O z2 CL,Qf O z3 AI,Qf O z4 AI⟩)
     have A7:D (Below K.heap.size K ((K.alloc (.cells #[I Z xt,I Z xa,I Z wt,I Z wa] 40)).drew)):=qh (((Ai _ _).alloc (Aj _) _).drew);have E4:=qh (CI.o.below A7.o);have E5:D (Ow Q3 ((K.alloc (.cells #[I Z xt,I Z xa,I Z wt,I Z wa] 40)).drew) [I Z 3,I Z C,I Z 0,A N 0 0,A (R ⟨K.heap.size,0,N⟩) 2 2] (3,C,0,[],[(xt,xa),(wt,wa)]) ([]++ [K.heap.size])):=qh (Ow.mkAgent (by unfold Qqm;omega) BT.o.2.1 (by unfold Qqm;omega) (Ow.nil _) (Qgi (T:=40) (Bg K _) CE.o.1 CE.o.2 AS.o.1 AS.o.2));have CN:D (∀q∈([]++ [K.heap.size]:List Nat),M.heap.size<=q/\q∉g::S'.all):=qh (λq Y=>by
      obtain rfl:q=K.heap.size:=by simpa using Y
      exact⟨by omega,λP=>by have:=CF.o _ P;omega⟩)
     have E6:D (([]++ [K.heap.size]:List Nat).Nodup):=qh (by simp);have E7:D (Q1 (λc=>c=g\/c=S.cb\/c∈Fa) K K.drew):=qh ((Q1.refl _ _).drew);have CO:D (Q1 (λc=>c=g\/c=S.cb\/c∈Fa) K ((K.alloc (.cells #[I Z xt,I Z xa,I Z wt,I Z wa] 40)).drew)):=qh (((Q1.refl _ _).alloc _).drew);clear B8 B9 f0 f1 x4 CJ
     go_region_held3(λV=>(V.cell? ⟨w.heap.size+1,1,N⟩=R (I Z C)/\V.cell? ⟨w.heap.size+1,4,N⟩=R (A (R ⟨by_,r,N⟩) H.length AD)/\V.cell? ⟨by_,r,N⟩=R (I Z wt)/\V.cell? ⟨by_,r+1,N⟩=R (I Z wa))/\V.cell? ⟨wr.heap.size,0,N⟩=R (I Z xt)/\V.cell? ⟨wr.heap.size,1,N⟩=R (I Z xa))
      (((with_reducible refine E2.o _ ?_);(first|with_reducible exact E8.o|with_reducible exact CP.o|with_reducible exact CQ.o|with_reducible exact CO.o|with_reducible exact E7.o|fail)))
      (first
       |((go_at_call 242;(with_reducible refine(Q4k E4.o 3 C 0 N (R ⟨K.heap.size,0,N⟩) 0 0 2 2 (3,C,0,[],[(xt,xa),(wt,wa)]) ([]++ [K.heap.size]) E5.o E6.o (λq Y=>(CN.o q Y).2) (λq Y=>(CN.o q Y).1)).mono ?_);rintro e' w8 ⟨rfl,hs,O⟩;have FZ:=qh hs;have CR:=qh O;have CQ:=qh (CO.o.trans (O.mono λc W=>W.elim .inl λh=> .inr (.inl h)));have E9:=qh (hs.below (show Below w8.heap.size w8 (w8.alloc (.cells #[I Z a] 2))from(Ai _ _).alloc (Aj _) _));have CP:=qh (CQ.o.alloc (.cells #[I Z a] 2));have G0:=CR.o.size;clear hs O))
       |((refine Y6 _ rfl (.tmp 60) (.tmp 74) 63 rfl (e:=.int) 2 ii _ 8 underlying63 DT DU DV DW rfl (by decide) (v:=A pa aj.length ca) (xs:=aj) (y:=(a:Int)) (vs:=[I Z a]) (F:=Fa) w8.heap.size 1 rfl rfl ((x.o.1.frame (Q1.trans (Ay CG.o) (Q1.trans (Ay A7.o) CR.o)) (λq Y=>⟨x.o.1.lt q Y,λe'=>by have h1:=(x.o.2.2 q Y).1;have:=B7.o;omega⟩)).kept λq Y=>Az _ _ _ (by have h1:=x.o.1.lt q Y;have h2:=A7.o.size;omega)) x.o.2.1 ⟨rfl,DY.o,rfl⟩ (Qdq (Q8 (Bg w8 _) rfl)) (by simp[Value.oneCell']) (by have h9:aj.length=j:=AV.o;omega) ?_;intro G1 G2 G3 EA CS AI CT BA;have EB:=qh CS;have EC:=qh AI;have ED:=qh CT;have EE:=qh (E9.o.other BA (λc W=>⟨λP=>(Aq.1 P).elim (λe'=>by have:=(x.o.2.2 c W).1;omega) (λh=>(B6.o _ c h).elim (λh=>by have h1:=x.o.1.lt c W;have h2:c=K.heap.size:=(by simpa using h);omega) (x.o.2.2 c W).2),(x.o.2.2 c W).1⟩));have E8:=qh (CP.o.trans (BA.mono λc W=> .inr (.inr W)));clear CS AI CT BA))
       |fail)
     all_goals
      have EF:=Jw.nodup HS.o.free;go_wp2_with fail
      go_roundw;case rel=>exact⟨j+1,S'.put (a:Int) ([]++ [K.heap.size]),l2,by omega,by go_num,(show Qk _ _ _ _ _ _ _ _ by rw[B5.o,E0.o];exact EE.o),(show Yy _ _ _ _ _ _ by
       rw[B5.o];show Yy .int _ _ _ _ (aj++ [mF mj]);rw[AH.o.1];exact⟨EA,EB.o,EC.o,λq Y=>(ED.o q Y).elim (λh=>⟨(x.o.2.2 q h).1,λP=>(B6.o _ q P).elim (λh'=>by have h1:=x.o.1.lt q h;have h2:q=K.heap.size:=(by simpa using h');omega) (x.o.2.2 q h).2⟩) (λe'=>⟨by rw[e'];have:=A7.o.size;simp;omega,λP=>(B6.o _ q P).elim (λh'=>by have h2:q=K.heap.size:=(by simpa using h');have h3:=A7.o.size;have h4:q=w8.heap.size+1:=(by simpa using e');have h5:K.heap.size<((K.alloc (.cells #[I Z xt,I Z xa,I Z wt,I Z wa] 40)).drew).heap.size:=(by simp[World.drew]);omega) (λh'=>by have h1:=CF.o q (Aa _ h');have h3:=A7.o.size;have h4:q=w8.heap.size+1:=(by simpa using e');omega)⟩)⟩),(show _<=_ by have:=C8.o;simp only[List.length_cons]at this;omega),(show Q8h _ _ _ by
       rw[B5.o];show Q8h (Qj mj _) l2 (aj++ [mF mj]);rw[AH.o.1];exact AU.o.take AH.o.1 AH.o.2 (Ar.1 EF).1 _ rfl),(show ¬_ from λP=>DX.o (Aa _ P))⟩
      case measure=>simp[intOf];omega
    ·have CU:j=B.length:=by omega
     have EG:=qh CU;rw[EG.o]at HS HA AU AV C9;have AZ:=qh (Qjy m1 C B (wt,wa) B.length);generalize Q15 m1 C B (wt,wa) B.length=Fn at *
     obtain⟨mA,E⟩:=Fn;have BB:D (E.length=B.length):=qh (AV.o);obtain⟨pa,ca,rfl⟩:=HA.o.form;have EH:0<E.length:=by have h1:=BB.o;have h2:=DS.o;omega
     have G4:E.length<=1000:=by have h1:=BB.o;omega
     have G5:IntKind.i64.wrap ((E.length:Int)-1)=(E.length:Int)-1:=by simp only[IntKind.wrap_i64];omega
     have EI:D (Qk M S g 0 wr mA S' l'):=qh (HS.o);have EJ:D (Yy .int M S' wr (A pa E.length ca) E):=qh (HA.o);have EK:D (Q8h mA l' E):=qh (AU.o);have G6:¬((j:Int)<B.length):=by omega
     clear CU HS HA AU AV;go_wp2_with fail
     go_loopw [12,80] (λ_ i wq=>∃q:Nat,q+1<=E.length/\i=I Z q/\D (Qk M S g 0 wq ((Bz q).foldl (Q4o E) mA) S' l')/\D (Yy .int M S' wq (A pa E.length ca) E)) (λ_ i _=>E.length-(intOf i).toNat);case atStart=>exact⟨0,EH,rfl,EI.o,EJ.o⟩
     case round=>
      rename Bh=>wq
      obtain⟨q,Y,rfl,A8,A9⟩:=hrel;have EL:=qh (Qbj E (Bz q) mA EK.o);have EM:D ((Bz (q+1)).foldl (Q4o E) mA=Q4o E ((Bz q).foldl (Q4o E) mA) q):=qh (by rw[List.range_succ,List.foldl_append];rfl);have EN:D (mX ((Bz q).foldl (Q4o E) mA)=mX mA):=qh (Qay _ _ _);have G7:=A8.o.fr.size;by_cases CV:q+1<E.length
      ·generalize (Bz q).foldl (Q4o E) mA=mq at *
       have AJ:q<E.length:=by omega
       obtain⟨aq,BC,EO,EP,BD⟩:=EL.o E[q] (As AJ);obtain⟨A0,A3,AA,hE⟩:=Rd.elem A9.o.rd q AJ;obtain⟨z0,AK⟩:=At.int hE;obtain⟨G8,G9,BE,CW⟩:=Rd.elem A9.o.rd (q+1) CV;rw[AA]at BE;simp only[Bu,Ck,and_true]at BE;obtain⟨rfl,rfl⟩:=BE;obtain⟨z1,CX⟩:=At.int CW;have EQ:D (E.getD q 0=(aq:Int)):=qh (by rw[Ab,Ad AJ,<-BC];rfl);have ER:D (E.getD (q+1) 0=E[q+1]):=qh (by rw[Ab,Ad CV];rfl);rw[BC]at z0 AK;generalize E[q+1]=zn at *
       simp only[Ty.sz,Cb]at z0 z1;have AL:D (A0∉S'.all):=qh (by obtain⟨Fq,oq,ES,rq⟩:=A9.o;have P:=oq.block0 AA (by intro e;rw[e]at AJ;simp at AJ);exact(rq _ P).2);subst AA;obtain⟨bw,ow,cw,w4,⟨AW,ET,EU⟩,w5,BF⟩:=A8.o.wordB (i:=(aq:Int)) (k:=1) (by rw[By];exact EO) (by rw[By];exact EP) (by unfold Q7;rw[By,BD];decide);have CY:(aW (Q7 (mC mq) (aq:Int))).length=2:=by unfold Q7;rw[By];exact BD
       rw[CY]at w4 w5;simp only[By,Nat.one_mul]at w4 BF;have EV:=qh BF;obtain⟨_,_,c0,-,-,-,-,-,-,-,-⟩:=A8.o.mem.head;have BG:=qh CX;have EW:=A8.o.mem.cells.bound;unfold maxLen at EW;have EX:D (∀V,Q1 (λc=>c=bw) wq V->V.cell? ⟨g,0,N⟩=R (A (R ⟨S'.cb,S'.o,N⟩) (mC mq).length S'.cap)/\V.cell? ⟨A0,A3+q,N⟩=R (I Z aq)/\V.cell? ⟨A0,A3+(q+1),N⟩=R (I Z zn)/\V.cell? ⟨S'.cb,S'.o+aq * 5+4,N⟩=R (A (R ⟨bw,ow,N⟩) 2 cw)):=qh (λV O=>⟨Qf O c0 (λe=>ET e.symm),Qf O z0 (λe=>AL.o (e▸AW)),Qf O z1 (λe=>AL.o (e▸AW)),Qf O w4 (λe=>EU e.symm)⟩);have EY:D (Below wq.heap.size wq wq.drew):=qh ((Ai _ _).drew);have EZ:D (bw<wq.heap.size):=qh (A8.o.mem.lt _ (Aa _ AW));have F0:(q:Int)<(E.length:Int)-1:=by omega
       have E1:(0:Int)<=q:=by omega
       have GA:(q:Int)<E.length:=by omega
       have GB:(q:Int)+1<E.length:=by omega
       have GC:(0:Int)<=(q:Int)+1:=by omega
       have GD:((q:Int)+1).toNat=q+1:=by omega
       have GE:IntKind.i64.wrap ((q:Int)+1)=(q:Int)+1:=by simp only[IntKind.wrap_i64];omega
       have GF:(0:Int)<=aq:=by omega
       have GG:(aq:Int)<(mC mq).length:=by omega
       have GH:(1:Int)<2:=by omega
       clear hE CW BF AK CX BD CY BC c0 z0 z1 w4;go_upto_region 18 with fail
       go_region_held3(λV=>V.cell? ⟨g,0,N⟩=R (A (R ⟨S'.cb,S'.o,N⟩) (mC mq).length S'.cap)/\V.cell? ⟨A0,A3+q,N⟩=R (I Z aq)/\V.cell? ⟨A0,A3+(q+1),N⟩=R (I Z zn)/\V.cell? ⟨S'.cb,S'.o+aq * 5+4,N⟩=R (A (R ⟨bw,ow,N⟩) 2 cw))
        (((with_reducible refine EX.o _ ?_);(repeat(first|with_reducible exact CZ.o|with_reducible exact Q1.refl _ _|with_reducible apply Q1.drew|with_reducible refine Q16 ?_))))
        ((go_at_call 246;(with_reducible refine(Q01 _ zn).mono ?_);rintro e w9 ⟨rfl,hb⟩;have BH:=qh (Q0 EY.o hb);have CZ:D (Q1 (λc=>c=bw) wq w9):=qh (Ay BH.o);obtain⟨⟨u0,GI⟩,⟨u1,GJ⟩,GK,D0⟩:=EV.o w9 BH.o;have F1:=qh D0;have GL:bw<w9.heap.size:=Ap EZ.o BH.o.size;clear hb D0))
       all_goals
        go_wp2_with fail
        go_roundw;case rel=>
         refine⟨q+1,by omega,by go_num,(show Qk _ _ _ _ _ _ _ _ from ?_),(show Yy _ _ _ _ _ _ from ?_)⟩
         ·rw[EM.o]
          unfold Q4o Qh;rw[EQ.o,ER.o];exact F1.o 1 zn (by unfold Qqm;omega) BG.o
         ·exact Yy.step (X:=λc=>c=bw) A9.o (Q16 (Q16 CZ.o)) (λc W=> .inr (by rw[W];exact AW)) (λb hb=> .inl hb)
        case measure=>simp[intOf];omega
      ·have D1:q=B.length-1:=by have:=BB.o;omega
       have F2:=qh D1;clear D1;have AX:0<E.length:=by omega
       obtain⟨A0,A3,AA,hE⟩:=Rd.elem A9.o.rd 0 AX;obtain⟨z0,AK⟩:=At.int hE;have AL:D (A0∉S'.all/\M.heap.size<=A0):=qh (by obtain⟨Fq,oq,ES,rq⟩:=A9.o;have P:=oq.block0 AA (by intro e;rw[e]at AX;simp at AX);exact⟨(rq _ P).2,(rq _ P).1⟩);subst AA;have F3:D (E.getD 0 0=E[0]):=qh (by rw[Ab,Ad AX];rfl);generalize E[0]=za at *
       simp only[Ty.sz,Cb,Cq]at z0;have BG:=qh AK;have F4:D ((mX ((Bz q).foldl (Q4o E) mA)).length<=1000000):=qh (by rw[EN.o];have h1:mX mA=mX m1:=AZ.o;rw[h1];exact B3.o.1);have D2:D (∀V,Q1 (λc=>c=g\/c∈S'.all) wq V->V.cell? ⟨A0,A3,N⟩=R (I Z za)):=qh (λV O=>Qf O z0 (λe=>e.elim (λe=>by have:=AL.o.2;omega) AL.o.1));have D3:D (Q1 (λc=>c=g\/c∈S'.all) wq wq.drew):=qh ((Q1.refl _ _).drew);have F5:=qh A8.o.drew;have GM:(0:Int)<E.length:=by omega
       have F0:¬((q:Int)<(E.length:Int)-1):=by omega
       clear hE AK z0;go_upto_region 20 with fail
       go_region_held3(λV=>V.cell? ⟨A0,A3,N⟩=R (I Z za))
        (first|with_reducible exact D2.o _ F6.o|with_reducible exact D2.o _ D3.o|fail)
        ((go_at_call 248;(with_reducible refine(Qcf F5.o (c:Int) za C2.o BG.o F4.o).mono ?_);rintro e GN ⟨rfl,F7,hs,F8,O⟩;have F9:=qh hs;have F6:=qh (D3.o.trans (O.mono λc W=>W.imp id λh=>Aa _ (Af _ h)));clear hs F8 O))
       go_wp2_with fail
       go_ret;refine⟨_,F7,l',rfl, ?_, ?_⟩
       ·rw[AG.o]
        show Qk _ _ _ _ _ (Yu ((Bz (B.length-1)).foldl (Q4o E) mA) c (E.getD 0 0)) _ _;rw[F3.o,<-F2.o];exact Qk.trans AP.o F9.o
       ·rw[AG.o];exact Yy.empty
theorem Qfb:(prog.info? 40).map (λi=>(i.zero,i.size,i.bytes))=R (R (Cz #[I Z 0,I Z 0]),2,16):=by kernel_rfl
theorem Q69(w:Bh)(n:Nat)(H:n<=1000000000):(Instr.makeSlice 132 (I Z (n:Int)) (I Z (n:Int))).run prog w=.ok (A (R ⟨w.heap.size,0,N⟩) n n) (w.alloc (.cells (Dh (Cz #[I Z 0,I Z 0]).cells (n * 2)) 40)):=by
 obtain⟨B,C,E,F,G⟩:=info_parts Qfb;have:=run_make (P:=prog) w 132 40 B (Cz #[I Z 0,I Z 0]) underlying132 C E Z Z (n:Int) (n:Int) (by omega) (by omega) (by rw[G];omega) (by omega);rw[F]at this;simpa using this
theorem Qk6(t w:Bh)(g:Nat)(m:Qqp)(F S:MS)(a:Nat)(l:List Nat)(h:Qk t F g 0 w m S (a::l))(H B J:Nat)(n:Nat)(K L M:Int)(C:List Int)(Y qy:Option Addr)(d ny ey:Nat)(h3:w.cell? ⟨H,0,N⟩=R (.pointer (R ⟨g,0,N⟩)))(h7:w.cell? ⟨J,0,N⟩=R (I Z n))
  (h5:w.cell? ⟨B,0,N⟩=R (I Z K)/\w.cell? ⟨B,1,N⟩=R (I Z L)/\w.cell? ⟨B,2,N⟩=R (I Z M)/\w.cell? ⟨B,3,N⟩=R (A Y C.length d)) (A1:Rd (.slice .int) w [A Y C.length d] C) (hi:Qqm K/\Qqm L/\Qqm M) (A2:C.length<=100000000) (O:n<=1000) (T:∀b,b=H\/b=B\/b=J->b≠g/\b≠F.cb):
  Calls prog 250 #[.pointer (R ⟨H,0,N⟩),.pointer (R ⟨B,0,N⟩),.pointer (R ⟨J,0,N⟩)] w λe w'=>e=.returned (I Z a)/\∃G,Qk t F g 0 w' (Qj m (K,L,M,C,Jj n)) (S.put a G) l/\(∀q∈G,w.heap.size<=q)/\Q1 (λc=>c=g\/c=F.cb) w w':=by
 have A3:=qh h;have HI:=qh hi;obtain⟨k0,k1,k2,k3⟩:=h5;have u:D (Below w.heap.size w w.drew):=qh ((Ai _ _).drew);have A4:D (∀V,Below w.heap.size w V->Rd (.slice .int) V [A Y C.length d] C):=qh (λV P=>A1.kept (Am P));have AF:=λW=>Q69 W n (by omega);have A5:D (∀W:Bh,Qqe Q4 40 W.heap.size (W.alloc (.cells (Dh (Cz #[I Z 0,I Z 0]).cells (n * 2)) 40)) (A (R ⟨W.heap.size,0,N⟩) n n) (Jj n)):=qh (λW=>Q8n W _ n (by omega));generalize hcur:Dh (Cz #[I Z 0,I Z 0]).cells (n * 2)=cur at *
 have A8:D (∀V,Q1 (λc=>c=g\/c=F.cb) w V->V.cell? ⟨H,0,N⟩=R (.pointer (R ⟨g,0,N⟩))/\V.cell? ⟨J,0,N⟩=R (I Z n)/\V.cell? ⟨B,0,N⟩=R (I Z K)/\V.cell? ⟨B,1,N⟩=R (I Z L)/\V.cell? ⟨B,2,N⟩=R (I Z M)/\V.cell? ⟨B,3,N⟩=R (A Y C.length d)):=qh (λV E=>by have n3:¬(H=g\/H=F.cb):=λe=>e.elim (T H (.inl rfl)).1 (T H (.inl rfl)).2;have p:¬(B=g\/B=F.cb):=λe=>e.elim (T B (.inr (.inl rfl))).1 (T B (.inr (.inl rfl))).2;have n7:¬(J=g\/J=F.cb):=λe=>e.elim (T J (.inr (.inr rfl))).1 (T J (.inr (.inr rfl))).2;exact⟨Qf E h3 n3,Qf E h7 n7,Qf E k0 p,Qf E k1 p,Qf E k2 p,Qf E k3 p⟩);have AG:D (Q1 (λc=>c=g\/c=F.cb) w w.drew):=qh ((Q1.refl _ _).drew);have A9:=qh h.mem.lt;have AA:=h.fr.size;have v:D (Below w.heap.size w ((w.alloc (.cells cur 40)).drew)):=qh (((Ai _ _).alloc (Aj _) _).drew);have AH:(0:Int)<=n:=by omega
 have A6:D (∀G:List Nat,(∀q∈G,w.heap.size<=q)->(∀q∈G,q∉g::S.all)/\∀q∈G,t.heap.size<=q):=qh (λG hG=>⟨λq U hm=>by have h1:=hG q U;have h2:=A9.o q hm;omega,λq U=>Au AA (hG q U)⟩);clear h hi A1 T hcur;go_enter func250,ntmps250;go_upto_region 1 with fail
 go_region_held3(λV=>V.cell? ⟨H,0,N⟩=R (.pointer (R ⟨g,0,N⟩))/\V.cell? ⟨J,0,N⟩=R (I Z n)/\V.cell? ⟨B,0,N⟩=R (I Z K)/\V.cell? ⟨B,1,N⟩=R (I Z L)/\V.cell? ⟨B,2,N⟩=R (I Z M)/\V.cell? ⟨B,3,N⟩=R (A Y C.length d))
  (((with_reducible refine A8.o _ ?_);(repeat(first|with_reducible exact x.o|with_reducible exact r.o|with_reducible exact Q1.refl _ _|with_reducible apply Q1.drew|with_reducible apply Q1.alloc))))
  (first
   |((go_at_call 242;(with_reducible refine(Q4k AB.o K L M y (R ⟨w1.heap.size,0,N⟩) C.length z n n (K,L,M,C,Jj n) G AC.o A0.o f.o.1 f.o.2).mono ?_);rintro e wt ⟨rfl,i,E⟩;have A7:=qh i;have x:=qh ((r.o.alloc (.cells cur 40)).trans E);clear i E))
   |((go_at_call 242;(with_reducible refine(Q4k AD.o K L M y (R ⟨w.heap.size,0,N⟩) C.length z n n (K,L,M,C,Jj n) G AE.o A0.o f.o.1 f.o.2).mono ?_);rintro e wt ⟨rfl,i,E⟩;have A7:=qh i;have x:=qh (r.o.trans E);clear i E))
   |((go_at_call 117;(with_reducible refine(Q02 w.drew _ C (A4.o _ u.o) A2).mono ?_);rintro e w1 ⟨v1,rfl,O,P⟩;obtain⟨y,z,rfl⟩:=Jo O;have X:=qh (Q0 u.o P);obtain⟨G,j,k,o⟩:=Qqa.agentA HI.o (O.lo (show w.heap.size<=w.drew.heap.size from u.o.size)) ((A5.o w1).new rfl) ((Ai _ _).alloc (Aj _) _) X.o.size;have AC:=qh j;have A0:=qh k;have s:=qh (λq (U:q∈G)=>(o q U).1);have f:=qh (A6.o G s.o);have AB:=qh ((A3.o.below X.o).below (show Below w1.heap.size w1 (w1.alloc (.cells cur 40))from(Ai _ _).alloc (Aj _) _));have r:D (Q1 (λc=>c=g\/c=F.cb) w w1):=qh (Ay X.o);clear O P j k o))
   |((go_at_call 117;(with_reducible refine(Q02 ((w.alloc (.cells cur 40)).drew) _ C (A4.o _ v.o) A2).mono ?_);rintro e w1 ⟨v1,rfl,O,P⟩;obtain⟨y,z,rfl⟩:=Jo O;have X:=qh (Q0 v.o P);obtain⟨G,j,k,o⟩:=Qqa.agentB HI.o O (((A5.o w).new rfl).kept (w':=(w.alloc (.cells cur 40)).drew) (Ai _ _).drew) P v.o.size;have AE:=qh j;have A0:=qh k;have s:=qh (λq (U:q∈G)=>(o q U).1);have f:=qh (A6.o G s.o);have AD:=qh (A3.o.below X.o);have r:D (Q1 (λc=>c=g\/c=F.cb) w w1):=qh (Ay X.o);clear O P j k o))
   )
 all_goals
  go_wp2_with fail
  go_ret;exact⟨rfl,G,A7.o,s.o,x.o⟩
end Go.Proofs.YthbpkpnioaniiaaGreat
