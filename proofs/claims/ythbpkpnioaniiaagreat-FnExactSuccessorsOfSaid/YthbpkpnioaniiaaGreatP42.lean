import Derived.Test.YthbpkpnioaniiaaGreatP29
set_option maxHeartbeats 40000000
set_option maxRecDepth 100000
set_option linter.all false
namespace Go.Proofs.YthbpkpnioaniiaaGreat
open Go.RowKit Go.Proofs.Tryz
open Go.Value renaming int->I,slice->A
open Go.IntKind renaming i64->Z
open Option renaming none->N,some->R
open Go renaming World->Bh,Value->Bk,Calls->Bq
open Go.RowKit renaming Below->Bi,intOf->Bv
open List renaming cons_append->Cc,nil_append->Bt,map_cons->Fk,sum_cons->Fp,length_cons->Bs
open Nat renaming mul_one->Cb,reduceAdd->Bj
abbrev Qqo(f:Nat)(t:Ty):Prop:=∀(w:Bh) (vs us:List Bk) (x y:t.den),Rd t w vs x->Rd t w us y->Bq prog f #[.agg vs.toArray,.agg us.toArray] w λe w'=>e=.returned (.bool (Qqu t x y))/\Bi w.heap.size w w'
abbrev Qqk(f:Nat)(t:Ty):Prop:=∀(w:Bh) (v1 v2:Bk) (xs ys:List t.den),Rd (.slice t) w [v1] xs->Rd (.slice t) w [v2] ys->Bq prog f #[v1,v2] w λe w'=>e=.returned (.bool (Qqu (.slice t) xs ys))/\Bi w.heap.size w w'
theorem Q2i:(Qqo 215 Q4->Qqk 179 Q4)/\(Qqo 73 Q4->Qqk 180 Q4)/\(Qqo 126 Q4->Qqk 74 Q4)/\(Qqo 181 Qu->Qqk 127 Qu)/\(Qqo 124 Q3->Qqk 71 Q3)/\(Qqo 125 Q3->Qqk 72 Q3)/\(Qqo 34 Je->Qqk 11 Je)/\(Qqo 75 Qc->Qqk 36 Qc)/\(Qqo 12 Qr->Qqk 10 Qr):=by
 refine⟨?_, ?_, ?_, ?_, ?_, ?_, ?_, ?_, ?_⟩
 all_goals
  intro E w v1 U xs ys K L;obtain⟨p,A7,rfl,A8,A2,g⟩:=(Yz K).gen;obtain⟨q,A9,rfl,AA,A3,h⟩:=(Yz L).gen;clear K L;unfold maxLen at A2 A3;have H:=qh E;have HX:=qh g;have HY:=qh h;clear E g h;by_cases J:xs.length=ys.length;case' pos=>
   have A4:((xs.length:Int) !=(ys.length:Int))=false:=by simp[J]
   have j:=qh J;clear J
  case' neg=>
   have A4:((xs.length:Int) !=(ys.length:Int))=true:=by simp;omega
   have V:D (xs≠ys):=qh (λe=>J (by rw[e]));clear J
 all_goals(first|(go_enter func179,ntmps179)|(go_enter func180,ntmps180)|(go_enter func74,ntmps74)|(go_enter func127,ntmps127)|(go_enter func71,ntmps71)|(go_enter func72,ntmps72)|(go_enter func11,ntmps11)|(go_enter func36,ntmps36)|(go_enter func10,ntmps10))
 all_goals go_wp2
 all_goals first
  |(go_ret;exact⟨Zi (by simp[V.o]),Ai _ _⟩)
  |skip
 all_goals
  go_loopw [5] (λi wr=>∃k:Nat,k<=xs.length/\i=I Z k/\xs.take k=ys.take k/\Bi w.heap.size w wr) (λi _=>xs.length-(Bv i).toNat);case atStart=>exact⟨0,Ak _,rfl,rfl,Ai _ _⟩
  case round=>
   obtain⟨k,hk,rfl,l,W⟩:=hrel;have m:=qh l;clear l;by_cases M:k<xs.length
   ·have X:k<ys.length:=by rw[<-j.o];exact M
    obtain⟨b,o,rfl,cs,F,B,Y⟩:=HX.o k M;obtain⟨b',o',rfl,AB,G,C,a⟩:=HY.o k X;generalize hxk:xs[k]=x at Y;generalize hyk:ys[k]=y at a;have n:=qh hxk;have r:=qh hyk;clear hxk hyk;have B:=B.kept (Am W);have C:=C.kept (Am W);have HR:=qh Y;have A5:=qh a;clear Y a
    first
     |(obtain⟨O,c,rfl⟩:=Ql5 F;obtain⟨P,v1,rfl⟩:=Ql5 G;simp only[Ty.sz,Cb,Bj]at B C;obtain⟨S,d⟩:=Qcy B;obtain⟨T,f⟩:=Qcy C)
     |(obtain⟨O,rfl⟩:=Qe4 F;obtain⟨P,rfl⟩:=Qe4 G;simp only[Ty.sz,Cb,Bj]at B C;have S:=Qac B;have T:=Qac C)
     |(obtain⟨O,c,s,t,rfl⟩:=Qif F;obtain⟨P,v1,U,u,rfl⟩:=Qif G;simp only[Ty.sz,Cb,Bj]at B C;obtain⟨S,d,v,z⟩:=Qm3 B;obtain⟨T,f,d2,d3⟩:=Qm3 C)
     |(obtain⟨O,c,s,t,u4,rfl⟩:=Qi8 F;obtain⟨P,v1,U,u,v4,rfl⟩:=Qi8 G;simp only[Ty.sz,Cb,Bj]at B C;obtain⟨S,d,v,z,c4⟩:=Q4b B;obtain⟨T,f,d2,d3,d4⟩:=Q4b C)
     |(obtain⟨O,c,s,t,u4,u5,u6,rfl⟩:=Qg5 F;obtain⟨P,v1,U,u,v4,v5,v6,rfl⟩:=Qg5 G;simp only[Ty.sz,Cb,Bj]at B C;obtain⟨S,d,v,z,c4,c5,c6⟩:=Qpc B;obtain⟨T,f,d2,d3,d4,d5,d6⟩:=Qpc C)
    clear B C F G;go_wp2_with fail
    go_still_tail 8,(by kernel_rfl)
    go_wp2_with fail
    refine(H.o _ _ _ _ _ (Rd.kept HR.o (Am (by go_grown))) (Rd.kept A5.o (Am (by go_grown)))).mono ?_;rintro e w1 ⟨rfl,A0⟩;have A1:Bi w.heap.size w w1:=Q0 (by go_grown) A0;clear A0;by_cases E:x=y
    ·have A6:=Ju E
     have H:=qh E;clear E;go_wp2;go_roundw;case rel=>exact⟨k+1,by omega,by go_num,Yb M X m.o (by rw[n.o,r.o,H.o]),A1⟩
     case measure=>simp[Bv];omega
    ·have A6:=Vh E
     have H:=qh E;clear E;go_wp2;go_ret;exact⟨Zi (by simp[Y2 M X (by rw[n.o,r.o];exact H.o)]),A1⟩
   ·have K:xs.length<=k:=by omega
    have L:ys.length<=k:=by rw[<-j.o];omega
    have V:=qh (Jc m.o K L);go_wp2;go_ret;exact⟨Zi (by simp[V.o]),W⟩
theorem Qb2(w:Bh)(v1 T:Bk)(xs ys:(Ty.slice Ty.int).den)(H:Rd (.slice .int) w [v1] xs)(J:Rd (.slice .int) w [T] ys):
  Bq prog 128 #[v1,T] w λe w'=>e=.returned (.bool (Qqu (.slice .int) xs ys))/\Bi w.heap.size w w':=by
 obtain⟨p,r,rfl,s,d,L⟩:=(Yz H).gen;obtain⟨q,t,rfl,u,f,M⟩:=(Yz J).gen;clear H J;unfold maxLen at d f;by_cases C:xs.length=ys.length
 ·have g:((xs.length:Int) !=(ys.length:Int))=false:=by simp[C]
  have U:=qh C;clear C;have h:=qh L;clear L;have j:=qh M;clear M;go_enter func128,ntmps128;go_wp2;go_loopw [5] (λi wr=>∃k:Nat,k<=xs.length/\i=I Z k/\xs.take k=ys.take k/\Bi w.heap.size w wr) (λi _=>xs.length-(Bv i).toNat);case atStart=>exact⟨0,Ak _,rfl,rfl,Ai _ _⟩
  case round=>
   obtain⟨k,v,rfl,V,E⟩:=hrel;have W:=qh V;clear V;by_cases K:k<xs.length
   ·have O:k<ys.length:=by rw[<-U.o];exact K
    obtain⟨b,o,rfl,cs,l,F,X⟩:=h.o k K;obtain⟨z,o',rfl,A0,m,G,Y⟩:=j.o k O;generalize hxk:xs[k]=x at X;generalize hyk:ys[k]=y at Y;have a:=qh hxk;have c:=qh hyk;clear hxk hyk l m;obtain⟨rfl,_⟩:=X;obtain⟨rfl,_⟩:=Y;have F:=F.kept (Am E);have G:=G.kept (Am E);simp only[Ty.sz,Cb,Bj]at F G;have c0:=Qac F;have d0:=Qac G;clear F G;by_cases B:x=y
    ·have n:(x !=y)=false:=by simp[B]
     have P:=qh B;clear B;go_wp2;go_quiet(fail)
     go_wp2;go_roundw;case rel=>exact⟨k+1,by omega,by go_num,Yb K O W.o (by rw[a.o,c.o,P.o]),Q6 E _⟩
     case measure=>simp[Bv];omega
    ·have n:(x !=y)=true:=by simp[B]
     have P:=qh B;clear B;go_wp2;go_quiet(fail)
     go_wp2;go_ret;exact⟨Zi (by simp[Y2 K O (by rw[a.o,c.o];exact P.o)]),Q6 E _⟩
   ·have H:xs.length<=k:=by omega
    have J:ys.length<=k:=by rw[<-U.o];omega
    have S:=qh (Jc W.o H J);go_wp2;go_ret;exact⟨Zi (by simp[S.o]),E⟩
 ·have g:((xs.length:Int) !=(ys.length:Int))=true:=by simp;omega
  have S:D (xs≠ys):=qh (λe=>C (by rw[e]));clear C L M;go_enter func128,ntmps128;go_wp2;go_ret;exact⟨Zi (by simp[S.o]),Ai _ _⟩
theorem Q5p(w:Bh)(vs us:List Bk)(x y:Q4.den)(B:Rd Q4 w vs x)(C:Rd Q4 w us y):
  (Bq prog 215 #[.agg vs.toArray,.agg us.toArray] w λe w'=>e=.returned (.bool (Qqu Q4 x y))/\Bi w.heap.size w w')/\(Bq prog 73 #[.agg vs.toArray,.agg us.toArray] w λe w'=>e=.returned (.bool (Qqu Q4 x y))/\Bi w.heap.size w w')/\(Bq prog 126 #[.agg vs.toArray,.agg us.toArray] w λe w'=>e=.returned (.bool (Qqu Q4 x y))/\Bi w.heap.size w w'):=by
 obtain⟨_,_,rfl,⟨rfl,E⟩,⟨rfl,F⟩⟩:=B;obtain⟨_,_,rfl,⟨rfl,G⟩,⟨rfl,H⟩⟩:=C;obtain⟨J,x1⟩:=x;obtain⟨K,L⟩:=y;try simp only[Cc,Bt]at *
 refine⟨?_, ?_, ?_⟩
 all_goals
  (first|(go_enter func215,ntmps215)|(go_enter func73,ntmps73)|(go_enter func126,ntmps126))
  go_wp2_with fail
  all_goals(go_ret;exact⟨Zi (by simp_all[Z1,Zc]),by go_grown⟩)
theorem Qn2(w:Bh)(vs us:List Bk)(x y:Q4.den)(B:Rd Q4 w vs x)(C:Rd Q4 w us y):
  Bq prog 215 #[.agg vs.toArray,.agg us.toArray] w λe w'=>e=.returned (.bool (Qqu Q4 x y))/\Bi w.heap.size w w':=(Q5p w vs us x y B C).1
theorem Q8m(w:Bh)(vs us:List Bk)(x y:Q4.den)(B:Rd Q4 w vs x)(C:Rd Q4 w us y):
  Bq prog 73 #[.agg vs.toArray,.agg us.toArray] w λe w'=>e=.returned (.bool (Qqu Q4 x y))/\Bi w.heap.size w w':=(Q5p w vs us x y B C).2.1
theorem Qmw(w:Bh)(vs us:List Bk)(x y:Q4.den)(B:Rd Q4 w vs x)(C:Rd Q4 w us y):
  Bq prog 126 #[.agg vs.toArray,.agg us.toArray] w λe w'=>e=.returned (.bool (Qqu Q4 x y))/\Bi w.heap.size w w':=(Q5p w vs us x y B C).2.2
theorem Qke:Qqk 179 Q4:=Q2i.1 Qn2
theorem Qm4:Qqk 180 Q4:=Q2i.2.1 Q8m
theorem Qd4:Qqk 74 Q4:=Q2i.2.2.1 Qmw
theorem Q85(w:Bh)(vs us:List Bk)(x y:Q3.den)(L:Rd Q3 w vs x)(M:Rd Q3 w us y):
  (Bq prog 124 #[.agg vs.toArray,.agg us.toArray] w λe w'=>e=.returned (.bool (Qqu Q3 x y))/\Bi w.heap.size w w')/\(Bq prog 125 #[.agg vs.toArray,.agg us.toArray] w λe w'=>e=.returned (.bool (Qqu Q3 x y))/\Bi w.heap.size w w'):=by
 obtain⟨_,_,rfl,⟨rfl,S⟩,⟨_,_,rfl,⟨rfl,T⟩,⟨_,_,rfl,⟨rfl,U⟩,⟨_,_,rfl,B,C⟩⟩⟩⟩:=L;obtain⟨V,rfl,B⟩:=Q04 B;obtain⟨W,rfl,C⟩:=Q04 C;obtain⟨_,_,rfl,⟨rfl,X⟩,⟨_,_,rfl,⟨rfl,Y⟩,⟨_,_,rfl,⟨rfl,a⟩,⟨_,_,rfl,E,F⟩⟩⟩⟩:=M;obtain⟨b,rfl,E⟩:=Q04 E;obtain⟨c,rfl,F⟩:=Q04 F;obtain⟨d,x1,x2,x3,f⟩:=x;obtain⟨g,h,i,j,k⟩:=y;try simp only[Cc,Bt]at *
 have O:=qh B;have J:=qh C;clear B C;have P:=qh E;have K:=qh F;clear E F;refine⟨?_, ?_⟩
 all_goals
  (first|(go_enter func124,ntmps124)|(go_enter func125,ntmps125))
  go_wp2_with fail
  rotate_left 3
  ·refine(Qb2 _ _ _ _ _ (Rd.kept O.o (Am (by go_grown))) (Rd.kept P.o (Am (by go_grown)))).mono ?_
   rintro e w1 ⟨rfl,G⟩;obtain⟨l,m⟩:=V8 G;have n:Bi w.heap.size w w1:=Q0 (by go_grown) G;have o:w.heap.size+1<w1.heap.size:=by have:=G.size;(try simp at this);omega
   have p:w.heap.size<w1.heap.size:=by omega
   clear G;go_wp2_with fail
   rotate_left 1
   ·(first|(refine(Qke _ _ _ _ _ (Rd.kept J.o (Am (by go_grown))) (Rd.kept K.o (Am (by go_grown)))).mono ?_)|(refine(Qm4 _ _ _ _ _ (Rd.kept J.o (Am (by go_grown))) (Rd.kept K.o (Am (by go_grown)))).mono ?_))
    rintro e w2 ⟨rfl,H⟩;obtain⟨q,r⟩:=V8 H;have s:Bi w.heap.size w w2:=Q0 (by go_grown) H;have t:w.heap.size+1<w2.heap.size:=by have:=H.size;(try simp at this);omega
    have u:w.heap.size<w2.heap.size:=by omega
    clear H;go_wp2_with fail
    all_goals(go_ret;exact⟨Zi (by simp_all[Z1,Zc]),by go_grown⟩)
   all_goals(go_ret;exact⟨Zi (by simp_all[Z1,Zc]),by go_grown⟩)
  all_goals(go_ret;exact⟨Zi (by simp_all[Z1,Zc]),by go_grown⟩)
theorem Ql6(w:Bh)(vs us:List Bk)(x y:Q3.den)(B:Rd Q3 w vs x)(C:Rd Q3 w us y):
  Bq prog 124 #[.agg vs.toArray,.agg us.toArray] w λe w'=>e=.returned (.bool (Qqu Q3 x y))/\Bi w.heap.size w w':=(Q85 w vs us x y B C).1
theorem Qnb(w:Bh)(vs us:List Bk)(x y:Q3.den)(B:Rd Q3 w vs x)(C:Rd Q3 w us y):
  Bq prog 125 #[.agg vs.toArray,.agg us.toArray] w λe w'=>e=.returned (.bool (Qqu Q3 x y))/\Bi w.heap.size w w':=(Q85 w vs us x y B C).2
theorem Qiv:Qqk 71 Q3:=Q2i.2.2.2.2.1 Ql6
theorem Qoy(w:Bh)(vs us:List Bk)(x y:Je.den)(F:Rd Je w vs x)(G:Rd Je w us y):
  Bq prog 34 #[.agg vs.toArray,.agg us.toArray] w λe w'=>e=.returned (.bool (Qqu Je x y))/\Bi w.heap.size w w':=by
 have B:=F;obtain⟨K,rfl,B⟩:=Q04 B;have C:=G;obtain⟨L,rfl,C⟩:=Q04 C;try simp only[Cc,Bt]at *
 have H:=qh B;clear B;have J:=qh C;clear C;go_enter func34,ntmps34;go_wp2_with fail
 ·refine(Qiv _ _ _ _ _ (Rd.kept H.o (Am (by go_grown))) (Rd.kept J.o (Am (by go_grown)))).mono ?_
  rintro e w1 ⟨rfl,E⟩;obtain⟨M,O⟩:=V8 E;have P:Bi w.heap.size w w1:=Q0 (by go_grown) E;have S:w.heap.size+1<w1.heap.size:=by have:=E.size;(try simp at this);omega
  have T:w.heap.size<w1.heap.size:=by omega
  clear E;go_wp2_with fail
  all_goals(go_ret;exact⟨Zi (by simp_all[Z1,Zc]),by go_grown⟩)
theorem Qn3:Qqk 11 Je:=Q2i.2.2.2.2.2.2.1 Qoy
theorem Qnf(w:Bh)(vs us:List Bk)(x y:Qu.den)(J:Rd Qu w vs x)(K:Rd Qu w us y):
  Bq prog 181 #[.agg vs.toArray,.agg us.toArray] w λe w'=>e=.returned (.bool (Qqu Qu x y))/\Bi w.heap.size w w':=by
 obtain⟨_,_,rfl,E,F⟩:=J;have L:=qh E;obtain⟨_,_,rfl,⟨rfl,S⟩,⟨rfl,T⟩⟩:=E;have M:=qh F;obtain⟨_,_,rfl,⟨rfl,U⟩,⟨rfl,V⟩⟩:=F;obtain⟨_,_,rfl,G,H⟩:=K;have O:=qh G;obtain⟨_,_,rfl,⟨rfl,W⟩,⟨rfl,X⟩⟩:=G;have P:=qh H;obtain⟨_,_,rfl,⟨rfl,Y⟩,⟨rfl,a⟩⟩:=H;obtain⟨⟨b,c⟩,⟨d,f⟩⟩:=x;obtain⟨⟨g,h⟩,⟨i,j⟩⟩:=y;try simp only[Cc,Bt]at *
 go_enter func181,ntmps181;go_wp2_with fail
 ·refine(Q8m _ _ _ _ _ (Rd.kept L.o (Am (by go_grown))) (Rd.kept O.o (Am (by go_grown)))).mono ?_
  rintro e w1 ⟨rfl,B⟩;obtain⟨k,l⟩:=V8 B;have m:Bi w.heap.size w w1:=Q0 (by go_grown) B;have n:w.heap.size+1<w1.heap.size:=by have:=B.size;(try simp at this);omega
  have o:w.heap.size<w1.heap.size:=by omega
  clear B;go_wp2_with fail
  rotate_left 1
  ·refine(Q8m _ _ _ _ _ (Rd.kept M.o (Am (by go_grown))) (Rd.kept P.o (Am (by go_grown)))).mono ?_
   rintro e w2 ⟨rfl,C⟩;obtain⟨p,q⟩:=V8 C;have r:Bi w.heap.size w w2:=Q0 (by go_grown) C;have s:w.heap.size+1<w2.heap.size:=by have:=C.size;(try simp at this);omega
   have t:w.heap.size<w2.heap.size:=by omega
   clear C;go_wp2_with fail
   all_goals(go_ret;exact⟨Zi (by simp_all[Z1,Zc]),by go_grown⟩)
  all_goals(go_ret;exact⟨Zi (by simp_all[Z1,Zc]),by go_grown⟩)
theorem Qlj:Qqk 127 Qu:=Q2i.2.2.2.1 Qnf
theorem Qk2:Qqk 72 Q3:=Q2i.2.2.2.2.2.1 Qnb
theorem Qj4(w:Bh)(vs us:List Bk)(x y:Qo.den)(O:Rd Qo w vs x)(P:Rd Qo w us y):
  Bq prog 35 #[.agg vs.toArray,.agg us.toArray] w λe w'=>e=.returned (.bool (Qqu Qo x y))/\Bi w.heap.size w w':=by
 obtain⟨_,_,rfl,B,⟨_,_,rfl,⟨rfl,Y⟩,⟨_,_,rfl,L,C⟩⟩⟩:=O;obtain⟨a,rfl,B⟩:=Q04 B;obtain⟨b,rfl,C⟩:=Q04 C;have S:=qh L;obtain⟨_,_,rfl,⟨rfl,c⟩,⟨rfl,d⟩⟩:=L;obtain⟨_,_,rfl,E,⟨_,_,rfl,⟨rfl,f⟩,⟨_,_,rfl,M,F⟩⟩⟩:=P;obtain⟨g,rfl,E⟩:=Q04 E;obtain⟨h,rfl,F⟩:=Q04 F;have T:=qh M;obtain⟨_,_,rfl,⟨rfl,i⟩,⟨rfl,j⟩⟩:=M;obtain⟨k,x1,⟨l,m⟩,x3⟩:=x;obtain⟨n,o,⟨p,q⟩,r⟩:=y;try simp only[Cc,Bt]at *
 have U:=qh B;have V:=qh C;clear B C;have W:=qh E;have X:=qh F;clear E F;go_enter func35,ntmps35;go_wp2_with fail
 ·refine(Qk2 _ _ _ _ _ (Rd.kept U.o (Am (by go_grown))) (Rd.kept W.o (Am (by go_grown)))).mono ?_
  rintro e w1 ⟨rfl,G⟩;obtain⟨s,t⟩:=V8 G;have u:Bi w.heap.size w w1:=Q0 (by go_grown) G;have v:w.heap.size+1<w1.heap.size:=by have:=G.size;(try simp at this);omega
  have z:w.heap.size<w1.heap.size:=by omega
  clear G;go_wp2_with fail
  rotate_left 2
  ·refine(Q8m _ _ _ _ _ (Rd.kept S.o (Am (by go_grown))) (Rd.kept T.o (Am (by go_grown)))).mono ?_
   rintro e w2 ⟨rfl,H⟩;obtain⟨A0,A1⟩:=V8 H;have A2:Bi w.heap.size w w2:=Q0 (by go_grown) H;have A3:w.heap.size+1<w2.heap.size:=by have:=H.size;(try simp at this);omega
   have A4:w.heap.size<w2.heap.size:=by omega
   clear H;go_wp2_with fail
   rotate_left 1
   ·refine(Qd4 _ _ _ _ _ (Rd.kept V.o (Am (by go_grown))) (Rd.kept X.o (Am (by go_grown)))).mono ?_
    rintro e K ⟨rfl,J⟩;obtain⟨A5,A6⟩:=V8 J;have A7:Bi w.heap.size w K:=Q0 (by go_grown) J;have A8:w.heap.size+1<K.heap.size:=by have:=J.size;(try simp at this);omega
    have A9:w.heap.size<K.heap.size:=by omega
    clear J;go_wp2_with fail
    all_goals(go_ret;exact⟨Zi (by simp_all[Z1,Zc]),by go_grown⟩)
   all_goals(go_ret;exact⟨Zi (by simp_all[Z1,Zc]),by go_grown⟩)
  all_goals(go_ret;exact⟨Zi (by simp_all[Z1,Zc]),by go_grown⟩)
theorem Qj9(w:Bh)(vs us:List Bk)(x y:Qc.den)(O:Rd Qc w vs x)(P:Rd Qc w us y):
  Bq prog 75 #[.agg vs.toArray,.agg us.toArray] w λe w'=>e=.returned (.bool (Qqu Qc x y))/\Bi w.heap.size w w':=by
 obtain⟨_,_,rfl,⟨rfl,Y⟩,⟨_,_,rfl,⟨rfl,a⟩,⟨_,_,rfl,B,⟨_,_,rfl,C,E⟩⟩⟩⟩:=O;obtain⟨b,rfl,B⟩:=Q04 B;obtain⟨c,rfl,C⟩:=Q04 C;obtain⟨d,rfl,E⟩:=Q04 E;obtain⟨_,_,rfl,⟨rfl,f⟩,⟨_,_,rfl,⟨rfl,g⟩,⟨_,_,rfl,F,⟨_,_,rfl,G,H⟩⟩⟩⟩:=P;obtain⟨h,rfl,F⟩:=Q04 F;obtain⟨i,rfl,G⟩:=Q04 G;obtain⟨j,rfl,H⟩:=Q04 H;obtain⟨k,x1,x2,x3,l⟩:=x;obtain⟨m,n,o,p,q⟩:=y;try simp only[Cc,Bt]at *
 have S:=qh B;have T:=qh C;have U:=qh E;clear B C E;have V:=qh F;have W:=qh G;have X:=qh H;clear F G H;go_enter func75,ntmps75;go_wp2_with fail
 rotate_left 2
 ·refine(Qd4 _ _ _ _ _ (Rd.kept S.o (Am (by go_grown))) (Rd.kept V.o (Am (by go_grown)))).mono ?_
  rintro e w1 ⟨rfl,J⟩;obtain⟨r,s⟩:=V8 J;have t:Bi w.heap.size w w1:=Q0 (by go_grown) J;have u:w.heap.size+1<w1.heap.size:=by have:=J.size;(try simp at this);omega
  have v:w.heap.size<w1.heap.size:=by omega
  clear J;go_wp2_with fail
  rotate_left 1
  ·refine(Qlj _ _ _ _ _ (Rd.kept T.o (Am (by go_grown))) (Rd.kept W.o (Am (by go_grown)))).mono ?_
   rintro e w2 ⟨rfl,K⟩;obtain⟨z,A0⟩:=V8 K;have A1:Bi w.heap.size w w2:=Q0 (by go_grown) K;have A2:w.heap.size+1<w2.heap.size:=by have:=K.size;(try simp at this);omega
   have A3:w.heap.size<w2.heap.size:=by omega
   clear K;go_wp2_with fail
   rotate_left 1
   ·refine(Qb2 _ _ _ _ _ (Rd.kept U.o (Am (by go_grown))) (Rd.kept X.o (Am (by go_grown)))).mono ?_
    rintro e M ⟨rfl,L⟩;obtain⟨A4,A5⟩:=V8 L;have A6:Bi w.heap.size w M:=Q0 (by go_grown) L;have A7:w.heap.size+1<M.heap.size:=by have:=L.size;(try simp at this);omega
    have A8:w.heap.size<M.heap.size:=by omega
    clear L;go_wp2_with fail
    all_goals(go_ret;exact⟨Zi (by simp_all[Z1,Zc]),by go_grown⟩)
   all_goals(go_ret;exact⟨Zi (by simp_all[Z1,Zc]),by go_grown⟩)
  all_goals(go_ret;exact⟨Zi (by simp_all[Z1,Zc]),by go_grown⟩)
 all_goals(go_ret;exact⟨Zi (by simp_all[Z1,Zc]),by go_grown⟩)
theorem Qf5:Qqk 36 Qc:=Q2i.2.2.2.2.2.2.2.1 Qj9
theorem Qh2(w:Bh)(vs us:List Bk)(x y:Qr.den)(S:Rd Qr w vs x)(T:Rd Qr w us y):
  Bq prog 12 #[.agg vs.toArray,.agg us.toArray] w λe w'=>e=.returned (.bool (Qqu Qr x y))/\Bi w.heap.size w w':=by
 obtain⟨_,_,rfl,L,⟨_,_,rfl,B,⟨rfl,Y⟩⟩⟩:=S;obtain⟨a,rfl,B⟩:=Q04 B;have U:=qh L;obtain⟨_,_,rfl,C,⟨_,_,rfl,⟨rfl,b⟩,⟨_,_,rfl,M,E⟩⟩⟩:=L;obtain⟨c,rfl,C⟩:=Q04 C;obtain⟨d,rfl,E⟩:=Q04 E;have f:=qh M;obtain⟨_,_,rfl,⟨rfl,g⟩,⟨rfl,h⟩⟩:=M;obtain⟨_,_,rfl,O,⟨_,_,rfl,F,⟨rfl,i⟩⟩⟩:=T;obtain⟨j,rfl,F⟩:=Q04 F;have V:=qh O;obtain⟨_,_,rfl,G,⟨_,_,rfl,⟨rfl,k⟩,⟨_,_,rfl,P,H⟩⟩⟩:=O;obtain⟨l,rfl,G⟩:=Q04 G;obtain⟨m,rfl,H⟩:=Q04 H;have n:=qh P;obtain⟨_,_,rfl,⟨rfl,o⟩,⟨rfl,p⟩⟩:=P;obtain⟨⟨q,r,⟨s,t⟩,u⟩,x1,x2⟩:=x;obtain⟨⟨v,z,⟨A0,A1⟩,A2⟩,y1,y2⟩:=y;try simp only[Cc,Bt]at *
 have W:=qh B;have A3:=qh C;have A4:=qh E;clear B C E;have X:=qh F;have A5:=qh G;have A6:=qh H;clear F G H;go_enter func12,ntmps12;go_wp2_with fail
 ·refine(Qj4 _ _ _ _ _ (Rd.kept U.o (Am (by go_grown))) (Rd.kept V.o (Am (by go_grown)))).mono ?_
  rintro e w1 ⟨rfl,J⟩;obtain⟨A7,A8⟩:=V8 J;have A9:Bi w.heap.size w w1:=Q0 (by go_grown) J;have AA:w.heap.size+1<w1.heap.size:=by have:=J.size;(try simp at this);omega
  have AB:w.heap.size<w1.heap.size:=by omega
  clear J;go_wp2_with fail
  rotate_left 1
  ·refine(Qf5 _ _ _ _ _ (Rd.kept W.o (Am (by go_grown))) (Rd.kept X.o (Am (by go_grown)))).mono ?_
   rintro e w2 ⟨rfl,K⟩;obtain⟨AC,AD⟩:=V8 K;have AE:Bi w.heap.size w w2:=Q0 (by go_grown) K;have AF:w.heap.size+1<w2.heap.size:=by have:=K.size;(try simp at this);omega
   have AG:w.heap.size<w2.heap.size:=by omega
   clear K;go_wp2_with fail
   all_goals(go_ret;exact⟨Zi (by simp_all[Z1,Zc]),by go_grown⟩)
  all_goals(go_ret;exact⟨Zi (by simp_all[Z1,Zc]),by go_grown⟩)
theorem Q9k:Qqk 10 Qr:=Q2i.2.2.2.2.2.2.2.2 Qh2
def Ty.low:Ty->Bool
 | .int=>true
 | .bool=>true
 | .pair a b=>Ty.low a && Ty.low b
 | .slice e=>decide (e.sz<=7) && Ty.low e
theorem Qcu:(t:Ty)->Ty.low t=true->(x:t.den)->Vc t x<=t.sz+7 * Qqy t x
 | .int,_,_=>by simp[Vc,Ty.sz,Qqy]
 | .bool,_,_=>by simp[Vc,Ty.sz,Qqy]
 | .pair a b,h,x=>by simp only[Ty.low,Bool.and_eq_true]at h;have B:=Qcu a h.1 x.1;have C:=Qcu b h.2 x.2;simp only[Vc,Ty.sz,Qqy];omega
 | .slice e,h,xs=>by
  simp only[Ty.low,Bool.and_eq_true,decide_eq_true_eq]at h;have:∀l:List e.den,(List.map (Vc e) l).sum<=7 * l.length+7 * (List.map (Qqy e) l).sum:=by
   intro l;induction l with
   |nil=>simp
   |cons a r ih=>have B:=Qcu e h.2 a;simp only[Fk,Fp,Bs];omega
  have:=this xs;simp only[Vc,Ty.sz,Qqy];omega
theorem Q8r{e:Ty}(h:Ty.low (.slice e)=true)(xs:List e.den):Z9 e xs<=1+7 * Qqy (.slice e) xs:=Qcu (.slice e) h xs
theorem Q55{e:Ty}{B:Nat}:∀ {xs:List e.den},(∀x∈xs,Vc e x<=B)->Z9 e xs<=xs.length * B
 | [],_=>by simp[Z9]
 |a::r,h=>by
  have E:=h a Ae;have F:=Q55 (xs:=r) λx C=>h x (Aa _ C);unfold Z9 at *
  simp only[Fk,Fp,Bs,Nat.add_mul]at *
  omega
theorem Qbw:∀xs:List Int,Z9 .int xs=xs.length
 | []=>rfl
 |a::r=>by
  have:=Qbw r;unfold Z9 at *
  rw[Fk,Fp,this,Bs,show Vc .int a=1 from rfl];omega
theorem Qaa(xs:List Wd):Z9 Q4 xs<=xs.length * 2:=Q55 λx _=>by simp[Vc]
theorem Ql4(xs:List Qqt):Z9 Qu xs<=xs.length * 4:=Q55 λx _=>by simp[Vc]
theorem Jp.mcnt{p:J9}(h:Jp p):Vc Qr p<=130000000:=by
 have J:Z9 Q3 (mC (pM p))<=(mC (pM p)).length * 9010:=Q55 λx B=>by have C:=h.1 x B;have E:=Qbw x.2.2.2.1;have F:=Qaa x.2.2.2.2;have e:Vc Q3 x=1+(1+(1+(Z9 .int x.2.2.2.1+Z9 Q4 x.2.2.2.2))):=rfl;unfold aD aW at C;rw[e];omega
 have K:Z9 Qc (pW p)<=(pW p).length * 24000009:=Q55 λx B=>by have C:=h.5 x B;have E:=Qaa x.2.2.1;have F:=Ql4 x.2.2.2.1;have L:=Qbw x.2.2.2.2;have e:Vc Qc x=1+(1+(Z9 Q4 x.2.2.1+(Z9 Qu x.2.2.2.1+Z9 .int x.2.2.2.2))):=rfl;unfold wX wL wC at C;rw[e];omega
 have M:=Qaa (mX (pM p));have e:Vc Qr p=(Z9 Q3 (mC (pM p))+(1+((1+1)+Z9 Q4 (mX (pM p)))))+(Z9 Qc (pW p)+1):=rfl;have G:=h.2;have O:=h.3;have H:=h.4;have P:(mC (pM p)).length * 9010<=1500 * 9010:=Bd _ G;have S:(pW p).length * 24000009<=4 * 24000009:=Bd _ H;rw[e];omega
end Go.Proofs.YthbpkpnioaniiaaGreat
