import Derived.Test.YthbpkpnioaniiaaGreatP39
set_option maxHeartbeats 40000000
set_option maxRecDepth 100000
set_option linter.all false
namespace Go.Proofs.YthbpkpnioaniiaaGreat
open Go.RowKit Go.Proofs.Tryz
open Go.Value renaming int->I,slice->A
open Go.IntKind renaming i64->Z
open Option renaming none->N,some->R
open Go renaming World->Bh,Value->Bk,Calls->Bq,madeCells->Dh,bodyPost_ret->Ca
open Go.RowKit renaming Below->Bi
open Go.Value renaming agg->Cz
open List renaming length->Bx,cons_append->Cc,nil_append->Bt
theorem Qfh:(prog.info? 2).map (λi=>(i.zero,i.size,i.bytes))=R (R (I Z 0),1,8):=by kernel_rfl
theorem Qbo(w:Bh)(v:Bk)(xs:(Ty.slice Ty.int).den)(h:Rx (Ty.slice Ty.int) w [v] xs)(X:Qqy (Ty.slice Ty.int) xs<=1048576):
  Bq prog 104 #[v] w (Qhp (Ty.slice Ty.int) w xs):=by
 obtain⟨p,q,rfl,r,Y,K⟩:=Q41 h;clear h;unfold maxLen at Y;rw[Q0a]at X;have s:Bx xs<=1048576:=by omega
 obtain⟨a,L,M,O,S⟩:=info_parts Qfh;have c:∀w:Bh,(Instr.makeSlice 63 (I Z (xs.length:Int)) (I Z (xs.length:Int))).run prog w=.ok (A (R ⟨w.heap.size,0,N⟩) xs.length xs.length) (w.alloc (.cells (Dh (I Z 0).cells (xs.length * 1)) 2)):=by intro w;have:=run_make (P:=prog) w 63 2 a (I Z 0) underlying63 L M Z Z (xs.length:Int) (xs.length:Int) (by omega) (by omega) (by rw[S];omega) (by omega);rw[O]at this;simpa using this
 have G:(Dh (I Z 0).cells (xs.length * 1)).size=xs.length * (Ty.int).sz:=size_madeCells _ _;generalize Dh (I Z 0).cells (xs.length * 1)=cur0 at *
 have d:=qh G;have f:=qh K;clear G K L M O S;have T:Jh (Ty.int) 2 w.heap.size w.heap.size xs.length xs 0 (w.alloc (.cells cur0 2)):=Jh.start (heap_alloc_new w _) d.o (Aj _);have g:=qh T;clear T;go_enter func104,ntmps104;go_wp2;go_loopw [4] (λi wr=>∃k:Nat,k<=xs.length/\i=I Z k/\D (Jh (Ty.int) 2 w.heap.size w.heap.size xs.length xs k wr)/\Bi w.heap.size w wr) (λi _=>xs.length-(intOf i).toNat);case atStart=>exact⟨0,Ak _,rfl,g,by go_grown⟩
 case round=>
  obtain⟨k,t,rfl,B,U⟩:=hrel;clear c;by_cases C:k<xs.length
  ·obtain⟨b,o,rfl,cs,G,E,H⟩:=f.o k C
   have j:Qqy (Ty.int) xs[k]<=1048576:=by have u:=Q4g (e:=Ty.int) C;have y:=Q7v (e:=Ty.int) xs (k+1);omega
   generalize hxk:xs[k]=x at H j;have l:=qh hxk;clear hxk G;have z:=qh H;obtain⟨rfl,V⟩:=H;have m:=qh V;clear V;have E:=E.kept (Am U);simp only[Ty.sz,Nat.mul_one,Nat.reduceAdd]at E;have c0:=Qac E;clear E;obtain⟨us,W,J⟩:=B.o.next C;obtain⟨t0,rfl⟩:=Qe4 W;simp only[Ty.sz,Nat.mul_one]at J;have e0:=Qac J;have A0:=B.o.free;clear W J;have A1:=B.o.lt;go_wp2;go_roundw;case rel=>exact⟨k+1,by omega,by go_num,Jh.step_at (w1:=wr) (F:=[]) k [I Z x] (by simp[Ty.sz]) B.o C C (Ai _ _) (by rw[l.o];exact⟨rfl,m.o,rfl⟩) (by simp) (by simp),by go_grown⟩
   case measure=>simp[intOf];omega
  ·have n:xs.length<=k:=by omega
   go_wp2;go_ret;exact⟨_,rfl,B.o.done n rfl (by unfold maxLen;omega),U⟩
theorem Q67(w:Bh)(vs:List Bk)(x:Q4.den)(h:Rx Q4 w vs x)(E:Qqy Q4 x<=1048576):
  (Bq prog 195 #[.agg vs.toArray] w (Q24 Q4 w x))/\(Bq prog 57 #[.agg vs.toArray] w (Q24 Q4 w x))/\(Bq prog 102 #[.agg vs.toArray] w (Q24 Q4 w x)):=by
 obtain⟨_,_,rfl,⟨rfl,B⟩,⟨rfl,C⟩⟩:=h;try simp only[Cc,Bt]at *
 refine⟨?_, ?_, ?_⟩
 all_goals
  (first|(go_enter func195,ntmps195)|(go_enter func57,ntmps57)|(go_enter func102,ntmps102))
  go_wp2_with fail
  (first|(refine Ca (v:=.agg #[I Z x.1,I Z x.2]) (by simp[results,results195,go_sem]) rfl ?_)|(refine Ca (v:=.agg #[I Z x.1,I Z x.2]) (by simp[results,results57,go_sem]) rfl ?_)|(refine Ca (v:=.agg #[I Z x.1,I Z x.2]) (by simp[results,results102,go_sem]) rfl ?_))
  refine⟨[I Z x.1,I Z x.2],rfl,Q1z.new (Q1z.pair (Q1z.int B w.heap.size) (Q1z.int C w.heap.size)) ?s0, ?b0⟩;case s0=>(simp;omega)
  case b0=>go_grown
theorem Qnj(w:Bh)(vs:List Bk)(x:Q4.den)(h:Rx Q4 w vs x)(B:Qqy Q4 x<=1048576):
  Bq prog 195 #[.agg vs.toArray] w (Q24 Q4 w x):=(Q67 w vs x h B).1
theorem Q8o(w:Bh)(vs:List Bk)(x:Q4.den)(h:Rx Q4 w vs x)(B:Qqy Q4 x<=1048576):
  Bq prog 57 #[.agg vs.toArray] w (Q24 Q4 w x):=(Q67 w vs x h B).2.1
theorem Qml(w:Bh)(vs:List Bk)(x:Q4.den)(h:Rx Q4 w vs x)(B:Qqy Q4 x<=1048576):
  Bq prog 102 #[.agg vs.toArray] w (Q24 Q4 w x):=(Q67 w vs x h B).2.2
theorem Qht:(prog.info? 185).map (λi=>(i.zero,i.size,i.bytes))=R (R (Cz #[I Z 0,I Z 0]),2,16):=by kernel_rfl
theorem Qlf:Qr1 150 (.slice Q4):=Q38.1 Qnj (Qr6 Qht underlying126 (by decide) rfl)
theorem Qhy:(prog.info? 40).map (λi=>(i.zero,i.size,i.bytes))=R (R (Cz #[I Z 0,I Z 0]),2,16):=by kernel_rfl
theorem Qlk:Qr1 151 (.slice Q4):=Q38.2.1 Q8o (Qr6 Qhy underlying132 (by decide) rfl)
theorem Qhx:(prog.info? 117).map (λi=>(i.zero,i.size,i.bytes))=R (R (Cz #[I Z 0,I Z 0]),2,16):=by kernel_rfl
theorem Qej:Qr1 58 (.slice Q4):=Q38.2.2.1 Qml (Qr6 Qhx underlying41 (by decide) rfl)
theorem Q87(w:Bh)(vs:List Bk)(x:Q3.den)(h:Rx Q3 w vs x)(d:Qqy Q3 x<=1048576):
  (Bq prog 100 #[.agg vs.toArray] w (Q24 Q3 w x))/\(Bq prog 101 #[.agg vs.toArray] w (Q24 Q3 w x)):=by
 obtain⟨_,_,rfl,⟨rfl,f⟩,⟨_,_,rfl,⟨rfl,g⟩,⟨_,_,rfl,⟨rfl,j⟩,⟨_,_,rfl,E,F⟩⟩⟩⟩:=h;obtain⟨p,rfl,E⟩:=Q0d E;obtain⟨q,rfl,F⟩:=Q0d F;try simp only[Cc,Bt]at *
 have k:=qh E;have M:=qh F;clear E F;simp only[V7,Va]at d;refine⟨?_, ?_⟩
 all_goals
  (first|(go_enter func100,ntmps100)|(go_enter func101,ntmps101))
  go_wp2_with fail
  refine(Qbo _ _ _ (Rx.kept k.o (Am (by go_grown))) (by(try simp only[V7,Va]);omega)).mono ?_;rintro e w1 ⟨v1,rfl,G,B⟩;obtain⟨q1,H,rfl⟩:=Jo G;obtain⟨O,r⟩:=V8 B;have s:Bi w.heap.size w w1:=Q0 (by go_grown) B;have P:=B.size;simp at P;have S:w.heap.size<w1.heap.size:=by omega
  have T:w.heap.size+1<w1.heap.size:=by omega
  have U:w.heap.size+2<w1.heap.size:=by omega
  have l:=qh G;have m:=qh B;clear G B P;go_wp2_with fail
  (first|(refine(Qlf _ _ _ (Rx.kept M.o (Am (by go_grown))) (by(try simp only[V7,Va]);omega)).mono ?_)|(refine(Qlk _ _ _ (Rx.kept M.o (Am (by go_grown))) (by(try simp only[V7,Va]);omega)).mono ?_))
  rintro e w2 ⟨t,rfl,J,C⟩;obtain⟨K,L,rfl⟩:=Jo J;obtain⟨V,u⟩:=V8 C;have y:Bi w.heap.size w w2:=Q0 (by go_grown) C;have W:=C.size;simp at W;have Y:w.heap.size<w2.heap.size:=by omega
  have a:w.heap.size+1<w2.heap.size:=by omega
  have b:w.heap.size+2<w2.heap.size:=by omega
  have n:=qh J;have c:=qh C;clear J C W;go_wp2_with fail
  (first|(refine Ca (v:=.agg #[I Z x.1,I Z x.2.1,I Z x.2.2.1,A q1 (Bx x.2.2.2.1) H,A K (Bx x.2.2.2.2) L]) (by simp[results,results100,go_sem,O,S,T,U,V,Y,a,b]) rfl ?_)|(refine Ca (v:=.agg #[I Z x.1,I Z x.2.1,I Z x.2.2.1,A q1 (Bx x.2.2.2.1) H,A K (Bx x.2.2.2.2) L]) (by simp[results,results101,go_sem,O,S,T,U,V,Y,a,b]) rfl ?_))
  refine⟨[I Z x.1,I Z x.2.1,I Z x.2.2.1,A q1 (Bx x.2.2.2.1) H,A K (Bx x.2.2.2.2) L],rfl,Q1z.new (Q1z.pair (Q1z.int f w.heap.size) (Q1z.pair (Q1z.int g w.heap.size) (Q1z.pair (Q1z.int j w.heap.size) (Q1z.pair (Q1z.fr (X:=λi=>i=w.heap.size+1\/i=w.heap.size+2) l.o ?f1 ?x1 w.heap.size ?l1 ?s1) (Q1z.fr (X:=λi=>i=w.heap.size+1\/i=w.heap.size+2) n.o ?f2 ?x2 w1.heap.size ?l2 ?s2))))) ?s0, ?b0⟩;case f1=>(repeat(first|(with_reducible exact Q1.refl _ _)|(with_reducible refine Q1.setCell ?_ (by simp) _)|(with_reducible refine Q1.alloc ?_ _)|(with_reducible refine Q1.call ?_ c.o)))
  case x1=>(intro i o;(try simp);omega)
  case l1=>(first|omega|(simp;done)|(simp;omega))
  case s1=>(have:=m.o.size;simpa using this)
  case f2=>(repeat(first|(with_reducible exact Q1.refl _ _)|(with_reducible refine Q1.setCell ?_ (by simp) _)|(with_reducible refine Q1.alloc ?_ _)))
  case x2=>(intro i o;(try simp);omega)
  case l2=>(first|omega|(simp;done)|(simp;omega))
  case s2=>(have:=c.o.size;simpa using this)
  case s0=>(first|omega|(simp;done)|(simp;omega))
  case b0=>go_grown
theorem Qkl(w:Bh)(vs:List Bk)(x:Q3.den)(h:Rx Q3 w vs x)(B:Qqy Q3 x<=1048576):
  Bq prog 100 #[.agg vs.toArray] w (Q24 Q3 w x):=(Q87 w vs x h B).1
theorem Qmg(w:Bh)(vs:List Bk)(x:Q3.den)(h:Rx Q3 w vs x)(B:Qqy Q3 x<=1048576):
  Bq prog 101 #[.agg vs.toArray] w (Q24 Q3 w x):=(Q87 w vs x h B).2
theorem Qg2:(prog.info? 128).map (λi=>(i.zero,i.size,i.bytes))=R (R (Cz #[I Z 0,I Z 0,I Z 0,A N 0 0,A N 0 0]),5,72):=by kernel_rfl
theorem Qib:Qr1 55 (.slice Q3):=Q38.2.2.2.2.1 Qkl (Qr6 Qg2 underlying69 (by decide) rfl)
theorem Qos(w:Bh)(vs:List Bk)(x:Je.den)(h:Rx Je w vs x)(S:Qqy Je x<=1048576):
  Bq prog 25 #[.agg vs.toArray] w (Q24 Je w x):=by
 have C:=h;obtain⟨T,rfl,C⟩:=Q0d C;try simp only[Cc,Bt]at *
 have H:=qh C;clear C;go_enter func25,ntmps25;go_wp2_with fail
 refine(Qib _ _ _ (Rx.kept H.o (Am (by go_grown))) (by(try simp only[V7,Va]);omega)).mono ?_;rintro e w1 ⟨v1,rfl,E,B⟩;obtain⟨q1,F,rfl⟩:=Jo E;obtain⟨J,U⟩:=V8 B;have V:Bi w.heap.size w w1:=Q0 (by go_grown) B;have G:=B.size;simp at G;have K:w.heap.size<w1.heap.size:=by omega
 have L:w.heap.size+1<w1.heap.size:=by omega
 have M:w.heap.size+2<w1.heap.size:=by omega
 have O:=qh E;have P:=qh B;clear E B G;go_wp2_with fail
 refine Ca (v:=.agg #[A q1 (Bx x) F]) (by simp[results,results25,go_sem,J,K,L,M]) rfl ?_;refine⟨[A q1 (Bx x) F],rfl,Q1z.new (Q1z.fr (X:=λi=>i=w.heap.size+1\/i=w.heap.size+2) O.o ?f1 ?x1 w.heap.size ?l1 ?s1) ?s0, ?b0⟩;case f1=>(repeat(first|(with_reducible exact Q1.refl _ _)|(with_reducible refine Q1.setCell ?_ (by simp) _)|(with_reducible refine Q1.alloc ?_ _)))
 case x1=>(intro i W;(try simp);omega)
 case l1=>(first|omega|(simp;done)|(simp;omega))
 case s1=>(have:=P.o.size;simpa using this)
 case s0=>(first|omega|(simp;done)|(simp;omega))
 case b0=>go_grown
theorem Qjm:(prog.info? 71).map (λi=>(i.zero,i.size,i.bytes))=R (R (Cz #[A N 0 0]),1,24):=by kernel_rfl
theorem Q8s:Qr1 7 (.slice Je):=Q38.2.2.2.2.2.2.1 Qos (Qr6 Qjm underlying37 (by decide) rfl)
theorem Qmz(w:Bh)(vs:List Bk)(x:Qu.den)(h:Rx Qu w vs x)(p:Qqy Qu x<=1048576):
  Bq prog 152 #[.agg vs.toArray] w (Q24 Qu w x):=by
 obtain⟨_,_,rfl,J,K⟩:=h;have T:=qh J;obtain⟨_,_,rfl,⟨rfl,q⟩,⟨rfl,r⟩⟩:=J;have U:=qh K;obtain⟨_,_,rfl,⟨rfl,s⟩,⟨rfl,t⟩⟩:=K;try simp only[Cc,Bt]at *
 go_enter func152,ntmps152;go_wp2_with fail
 refine(Q8o _ _ _ (Rx.kept T.o (Am (by go_grown))) (by(try simp only[V7,Va]);omega)).mono ?_;rintro e w1 ⟨v1,rfl,E,B⟩;obtain⟨V,G,L⟩:=E;have E:Qqa Q4 _ w1 v1 x.1:=⟨V,G,L⟩;obtain rfl:=Q6l G;clear G L;obtain⟨W,u⟩:=V8 B;have y:Bi w.heap.size w w1:=Q0 (by go_grown) B;have M:=B.size;simp at M;have Y:w.heap.size<w1.heap.size:=by omega
 have a:w.heap.size+1<w1.heap.size:=by omega
 have b:w.heap.size+2<w1.heap.size:=by omega
 have c:=qh E;have d:=qh B;clear E B M;go_wp2_with fail
 refine(Q8o _ _ _ (Rx.kept U.o (Am (by go_grown))) (by(try simp only[V7,Va]);omega)).mono ?_;rintro e w2 ⟨f,rfl,F,C⟩;obtain⟨g,H,O⟩:=F;have F:Qqa Q4 _ w2 f x.2:=⟨g,H,O⟩;obtain rfl:=Q6l H;clear H O;obtain⟨j,z⟩:=V8 C;have A0:Bi w.heap.size w w2:=Q0 (by go_grown) C;have P:=C.size;simp at P;have k:w.heap.size<w2.heap.size:=by omega
 have l:w.heap.size+1<w2.heap.size:=by omega
 have m:w.heap.size+2<w2.heap.size:=by omega
 have n:=qh F;have S:=qh C;clear F C P;go_wp2_with fail
 refine Ca (v:=.agg #[I Z x.1.1,I Z x.1.2,I Z x.2.1,I Z x.2.2]) (by simp[results,results152,go_sem,W,Y,a,b,j,k,l,m]) rfl ?_;refine⟨[I Z x.1.1,I Z x.1.2,I Z x.2.1,I Z x.2.2],rfl,Q1z.new (Q1z.pair (Q1z.fr (X:=λi=>i=w.heap.size+1\/i=w.heap.size+2) c.o ?f1 ?x1 w.heap.size ?l1 ?s1) (Q1z.fr (X:=λi=>i=w.heap.size+1\/i=w.heap.size+2) n.o ?f2 ?x2 w1.heap.size ?l2 ?s2)) ?s0, ?b0⟩;case f1=>(repeat(first|(with_reducible exact Q1.refl _ _)|(with_reducible refine Q1.setCell ?_ (by simp) _)|(with_reducible refine Q1.alloc ?_ _)|(with_reducible refine Q1.call ?_ S.o)))
 case x1=>(intro i o;(try simp);omega)
 case l1=>(first|omega|(simp;done)|(simp;omega))
 case s1=>(have:=d.o.size;simpa using this)
 case f2=>(repeat(first|(with_reducible exact Q1.refl _ _)|(with_reducible refine Q1.setCell ?_ (by simp) _)|(with_reducible refine Q1.alloc ?_ _)))
 case x2=>(intro i o;(try simp);omega)
 case l2=>(first|omega|(simp;done)|(simp;omega))
 case s2=>(have:=S.o.size;simpa using this)
 case s0=>(first|omega|(simp;done)|(simp;omega))
 case b0=>go_grown
theorem Qi9:(prog.info? 120).map (λi=>(i.zero,i.size,i.bytes))=R (R (Cz #[I Z 0,I Z 0,I Z 0,I Z 0]),4,32):=by kernel_rfl
theorem Ql2:Qr1 103 (.slice Qu):=Q38.2.2.2.1 Qmz (Qr6 Qi9 underlying97 (by decide) rfl)
theorem Qia:(prog.info? 134).map (λi=>(i.zero,i.size,i.bytes))=R (R (Cz #[I Z 0,I Z 0,I Z 0,A N 0 0,A N 0 0]),5,72):=by kernel_rfl
theorem Qjf:Qr1 56 (.slice Q3):=Q38.2.2.2.2.2.1 Qmg (Qr6 Qia underlying39 (by decide) rfl)
theorem Qiz(w:Bh)(vs:List Bk)(x:Qo.den)(h:Rx Qo w vs x)(d:Qqy Qo x<=1048576):
  Bq prog 26 #[.agg vs.toArray] w (Q24 Qo w x):=by
 obtain⟨_,_,rfl,F,⟨_,_,rfl,⟨rfl,f⟩,⟨_,_,rfl,P,G⟩⟩⟩:=h;obtain⟨a1,rfl,F⟩:=Q0d F;obtain⟨a4,rfl,G⟩:=Q0d G;have g:=qh P;obtain⟨_,_,rfl,⟨rfl,A6⟩,⟨rfl,A7⟩⟩:=P;try simp only[Cc,Bt]at *
 have j:=qh F;have k:=qh G;clear F G;simp only[V7,Va]at d;go_enter func26,ntmps26;go_wp2_with fail
 refine(Qjf _ _ _ (Rx.kept j.o (Am (by go_grown))) (by(try simp only[V7,Va]);omega)).mono ?_;rintro e w1 ⟨v1,rfl,K,B⟩;obtain⟨q1,S,rfl⟩:=Jo K;obtain⟨l,A8⟩:=V8 B;have A9:Bi w.heap.size w w1:=Q0 (by go_grown) B;have T:=B.size;simp at T;have m:w.heap.size<w1.heap.size:=by omega
 have n:w.heap.size+1<w1.heap.size:=by omega
 have o:w.heap.size+2<w1.heap.size:=by omega
 have p:=qh K;have q:=qh B;clear K B T;go_wp2_with fail
 refine(Q8o _ _ _ (Rx.kept g.o (Am (by go_grown))) (by(try simp only[V7,Va]);omega)).mono ?_;rintro e w2 ⟨r,rfl,H,C⟩;obtain⟨s,L,U⟩:=H;have H:Qqa Q4 _ w2 r x.2.2.1:=⟨s,L,U⟩;obtain rfl:=Q6l L;clear L U;obtain⟨t,AA⟩:=V8 C;have AB:Bi w.heap.size w w2:=Q0 (by go_grown) C;have V:=C.size;simp at V;have u:w.heap.size<w2.heap.size:=by omega
 have y:w.heap.size+1<w2.heap.size:=by omega
 have z:w.heap.size+2<w2.heap.size:=by omega
 have A0:=qh H;have W:=qh C;clear H C V;go_wp2_with fail
 refine(Qej _ _ _ (Rx.kept k.o (Am (by go_grown))) (by(try simp only[V7,Va]);omega)).mono ?_;rintro e J ⟨v3,rfl,M,E⟩;obtain⟨Y,a,rfl⟩:=Jo M;obtain⟨A1,AC⟩:=V8 E;have AD:Bi w.heap.size w J:=Q0 (by go_grown) E;have b:=E.size;simp at b;have A2:w.heap.size<J.heap.size:=by omega
 have A3:w.heap.size+1<J.heap.size:=by omega
 have A4:w.heap.size+2<J.heap.size:=by omega
 have A5:=qh M;have O:=qh E;clear M E b;go_wp2_with fail
 refine Ca (v:=.agg #[A q1 (Bx x.1) S,I Z x.2.1,I Z x.2.2.1.1,I Z x.2.2.1.2,A Y (Bx x.2.2.2) a]) (by simp[results,results26,go_sem,l,m,n,o,t,u,y,z,A1,A2,A3,A4]) rfl ?_;refine⟨[A q1 (Bx x.1) S,I Z x.2.1,I Z x.2.2.1.1,I Z x.2.2.1.2,A Y (Bx x.2.2.2) a],rfl,Q1z.new (Q1z.pair (Q1z.fr (X:=λi=>i=w.heap.size+1\/i=w.heap.size+2) p.o ?f1 ?x1 w.heap.size ?l1 ?s1) (Q1z.pair (Q1z.int f w1.heap.size) (Q1z.pair (Q1z.fr (X:=λi=>i=w.heap.size+1\/i=w.heap.size+2) A0.o ?f2 ?x2 w1.heap.size ?l2 ?s2) (Q1z.fr (X:=λi=>i=w.heap.size+1\/i=w.heap.size+2) A5.o ?f3 ?x3 w2.heap.size ?l3 ?s3)))) ?s0, ?b0⟩;case f1=>(repeat(first|(with_reducible exact Q1.refl _ _)|(with_reducible refine Q1.setCell ?_ (by simp) _)|(with_reducible refine Q1.alloc ?_ _)|(with_reducible refine Q1.call ?_ W.o)|(with_reducible refine Q1.call ?_ O.o)))
 case x1=>(intro i c;(try simp);omega)
 case l1=>(first|omega|(simp;done)|(simp;omega))
 case s1=>(have:=q.o.size;simpa using this)
 case f2=>(repeat(first|(with_reducible exact Q1.refl _ _)|(with_reducible refine Q1.setCell ?_ (by simp) _)|(with_reducible refine Q1.alloc ?_ _)|(with_reducible refine Q1.call ?_ O.o)))
 case x2=>(intro i c;(try simp);omega)
 case l2=>(first|omega|(simp;done)|(simp;omega))
 case s2=>(have:=W.o.size;simpa using this)
 case f3=>(repeat(first|(with_reducible exact Q1.refl _ _)|(with_reducible refine Q1.setCell ?_ (by simp) _)|(with_reducible refine Q1.alloc ?_ _)))
 case x3=>(intro i c;(try simp);omega)
 case l3=>(first|omega|(simp;done)|(simp;omega))
 case s3=>(have:=O.o.size;simpa using this)
 case s0=>(first|omega|(simp;done)|(simp;omega))
 case b0=>go_grown
theorem Qj2(w:Bh)(vs:List Bk)(x:Qc.den)(h:Rx Qc w vs x)(d:Qqy Qc x<=1048576):
  Bq prog 59 #[.agg vs.toArray] w (Q24 Qc w x):=by
 obtain⟨_,_,rfl,⟨rfl,f⟩,⟨_,_,rfl,⟨rfl,g⟩,⟨_,_,rfl,F,⟨_,_,rfl,G,H⟩⟩⟩⟩:=h;obtain⟨a3,rfl,F⟩:=Q0d F;obtain⟨a4,rfl,G⟩:=Q0d G;obtain⟨a5,rfl,H⟩:=Q0d H;try simp only[Cc,Bt]at *
 have j:=qh F;have k:=qh G;have l:=qh H;clear F G H;simp only[V7,Va]at d;go_enter func59,ntmps59;go_wp2_with fail
 refine(Qej _ _ _ (Rx.kept j.o (Am (by go_grown))) (by(try simp only[V7,Va]);omega)).mono ?_;rintro e w1 ⟨v1,rfl,K,B⟩;obtain⟨q1,P,rfl⟩:=Jo K;obtain⟨m,A5⟩:=V8 B;have A6:Bi w.heap.size w w1:=Q0 (by go_grown) B;have S:=B.size;simp at S;have n:w.heap.size<w1.heap.size:=by omega
 have o:w.heap.size+1<w1.heap.size:=by omega
 have p:w.heap.size+2<w1.heap.size:=by omega
 have q:=qh K;have r:=qh B;clear K B S;go_wp2_with fail
 refine(Ql2 _ _ _ (Rx.kept k.o (Am (by go_grown))) (by(try simp only[V7,Va]);omega)).mono ?_;rintro e w2 ⟨v2,rfl,L,C⟩;obtain⟨T,U,rfl⟩:=Jo L;obtain⟨s,A7⟩:=V8 C;have A8:Bi w.heap.size w w2:=Q0 (by go_grown) C;have V:=C.size;simp at V;have t:w.heap.size<w2.heap.size:=by omega
 have u:w.heap.size+1<w2.heap.size:=by omega
 have y:w.heap.size+2<w2.heap.size:=by omega
 have z:=qh L;have W:=qh C;clear L C V;go_wp2_with fail
 refine(Qbo _ _ _ (Rx.kept l.o (Am (by go_grown))) (by(try simp only[V7,Va]);omega)).mono ?_;rintro e J ⟨v3,rfl,M,E⟩;obtain⟨Y,a,rfl⟩:=Jo M;obtain⟨A0,A9⟩:=V8 E;have AA:Bi w.heap.size w J:=Q0 (by go_grown) E;have b:=E.size;simp at b;have A1:w.heap.size<J.heap.size:=by omega
 have A2:w.heap.size+1<J.heap.size:=by omega
 have A3:w.heap.size+2<J.heap.size:=by omega
 have A4:=qh M;have O:=qh E;clear M E b;go_wp2_with fail
 refine Ca (v:=.agg #[I Z x.1,I Z x.2.1,A q1 (Bx x.2.2.1) P,A T (Bx x.2.2.2.1) U,A Y (Bx x.2.2.2.2) a]) (by simp[results,results59,go_sem,m,n,o,p,s,t,u,y,A0,A1,A2,A3]) rfl ?_;refine⟨[I Z x.1,I Z x.2.1,A q1 (Bx x.2.2.1) P,A T (Bx x.2.2.2.1) U,A Y (Bx x.2.2.2.2) a],rfl,Q1z.new (Q1z.pair (Q1z.int f w.heap.size) (Q1z.pair (Q1z.int g w.heap.size) (Q1z.pair (Q1z.fr (X:=λi=>i=w.heap.size+1\/i=w.heap.size+2) q.o ?f1 ?x1 w.heap.size ?l1 ?s1) (Q1z.pair (Q1z.fr (X:=λi=>i=w.heap.size+1\/i=w.heap.size+2) z.o ?f2 ?x2 w1.heap.size ?l2 ?s2) (Q1z.fr (X:=λi=>i=w.heap.size+1\/i=w.heap.size+2) A4.o ?f3 ?x3 w2.heap.size ?l3 ?s3))))) ?s0, ?b0⟩;case f1=>(repeat(first|(with_reducible exact Q1.refl _ _)|(with_reducible refine Q1.setCell ?_ (by simp) _)|(with_reducible refine Q1.alloc ?_ _)|(with_reducible refine Q1.call ?_ W.o)|(with_reducible refine Q1.call ?_ O.o)))
 case x1=>(intro i c;(try simp);omega)
 case l1=>(first|omega|(simp;done)|(simp;omega))
 case s1=>(have:=r.o.size;simpa using this)
 case f2=>(repeat(first|(with_reducible exact Q1.refl _ _)|(with_reducible refine Q1.setCell ?_ (by simp) _)|(with_reducible refine Q1.alloc ?_ _)|(with_reducible refine Q1.call ?_ O.o)))
 case x2=>(intro i c;(try simp);omega)
 case l2=>(first|omega|(simp;done)|(simp;omega))
 case s2=>(have:=W.o.size;simpa using this)
 case f3=>(repeat(first|(with_reducible exact Q1.refl _ _)|(with_reducible refine Q1.setCell ?_ (by simp) _)|(with_reducible refine Q1.alloc ?_ _)))
 case x3=>(intro i c;(try simp);omega)
 case l3=>(first|omega|(simp;done)|(simp;omega))
 case s3=>(have:=O.o.size;simpa using this)
 case s0=>(first|omega|(simp;done)|(simp;omega))
 case b0=>go_grown
theorem Qde:(prog.info? 99).map (λi=>(i.zero,i.size,i.bytes))=R (R (Cz #[I Z 0,I Z 0,A N 0 0,A N 0 0,A N 0 0]),5,88):=by kernel_rfl
theorem Qf7:Qr1 27 (.slice Qc):=Q38.2.2.2.2.2.2.2 Qj2 (Qr6 Qde underlying44 (by decide) rfl)
theorem Q8x(w:Bh)(vs:List Bk)(x:Qr.den)(h:Rx Qr w vs x)(c:Qqy Qr x<=1048576):
  Bq prog 8 #[.agg vs.toArray] w (Q24 Qr w x):=by
 obtain⟨_,_,rfl,L,⟨_,_,rfl,E,⟨rfl,d⟩⟩⟩:=h;obtain⟨z,rfl,E⟩:=Q0d E;have f:=qh L;obtain⟨_,_,rfl,F,⟨_,_,rfl,⟨rfl,A0⟩,⟨_,_,rfl,M,G⟩⟩⟩:=L;obtain⟨a4,rfl,F⟩:=Q0d F;obtain⟨a7,rfl,G⟩:=Q0d G;have A1:=qh M;obtain⟨_,_,rfl,⟨rfl,A2⟩,⟨rfl,A3⟩⟩:=M;try simp only[Cc,Bt]at *
 have g:=qh E;have A4:=qh F;have A5:=qh G;clear E F G;simp only[V7,Va]at c;go_enter func8,ntmps8;go_wp2_with fail
 refine(Qiz _ _ _ (Rx.kept f.o (Am (by go_grown))) (by(try simp only[V7,Va]);omega)).mono ?_;rintro e w1 ⟨v1,rfl,H,B⟩;obtain⟨j,J,O⟩:=H;have H:Qqa Qo _ w1 v1 x.1:=⟨j,J,O⟩;obtain⟨P,S,T,U,rfl⟩:=Qfa J;clear J O;obtain⟨k,A6⟩:=V8 B;have A7:Bi w.heap.size w w1:=Q0 (by go_grown) B;have V:=B.size;simp at V;have l:w.heap.size<w1.heap.size:=by omega
 have m:w.heap.size+1<w1.heap.size:=by omega
 have n:w.heap.size+2<w1.heap.size:=by omega
 have o:=qh H;have p:=qh B;clear H B V;go_wp2_with fail
 refine(Qf7 _ _ _ (Rx.kept g.o (Am (by go_grown))) (by(try simp only[V7,Va]);omega)).mono ?_;rintro e w2 ⟨v2,rfl,K,C⟩;obtain⟨W,Y,rfl⟩:=Jo K;obtain⟨q,A8⟩:=V8 C;have A9:Bi w.heap.size w w2:=Q0 (by go_grown) C;have a:=C.size;simp at a;have r:w.heap.size<w2.heap.size:=by omega
 have s:w.heap.size+1<w2.heap.size:=by omega
 have t:w.heap.size+2<w2.heap.size:=by omega
 have u:=qh K;have b:=qh C;clear K C a;go_wp2_with fail
 refine Ca (v:=.agg #[A P (Bx x.1.1) T,I Z x.1.2.1,I Z x.1.2.2.1.1,I Z x.1.2.2.1.2,A S (Bx x.1.2.2.2) U,A W (Bx x.2.1) Y,I Z x.2.2]) (by simp[results,results8,go_sem,k,l,m,n,q,r,s,t]) rfl ?_;refine⟨[A P (Bx x.1.1) T,I Z x.1.2.1,I Z x.1.2.2.1.1,I Z x.1.2.2.1.2,A S (Bx x.1.2.2.2) U,A W (Bx x.2.1) Y,I Z x.2.2],rfl,Q1z.new (Q1z.pair (Q1z.fr (X:=λi=>i=w.heap.size+1\/i=w.heap.size+2) o.o ?f1 ?x1 w.heap.size ?l1 ?s1) (Q1z.pair (Q1z.fr (X:=λi=>i=w.heap.size+1\/i=w.heap.size+2) u.o ?f2 ?x2 w1.heap.size ?l2 ?s2) (Q1z.int d w2.heap.size))) ?s0, ?b0⟩;case f1=>(repeat(first|(with_reducible exact Q1.refl _ _)|(with_reducible refine Q1.setCell ?_ (by simp) _)|(with_reducible refine Q1.alloc ?_ _)|(with_reducible refine Q1.call ?_ b.o)))
 case x1=>(intro i y;(try simp);omega)
 case l1=>(first|omega|(simp;done)|(simp;omega))
 case s1=>(have:=p.o.size;simpa using this)
 case f2=>(repeat(first|(with_reducible exact Q1.refl _ _)|(with_reducible refine Q1.setCell ?_ (by simp) _)|(with_reducible refine Q1.alloc ?_ _)))
 case x2=>(intro i y;(try simp);omega)
 case l2=>(first|omega|(simp;done)|(simp;omega))
 case s2=>(have:=b.o.size;simpa using this)
 case s0=>(first|omega|(simp;done)|(simp;omega))
 case b0=>go_grown
end Go.Proofs.YthbpkpnioaniiaaGreat
