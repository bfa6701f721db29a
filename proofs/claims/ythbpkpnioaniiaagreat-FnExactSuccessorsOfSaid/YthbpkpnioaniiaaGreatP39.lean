import Derived.Test.YthbpkpnioaniiaaGreatP38
set_option maxHeartbeats 40000000
set_option maxRecDepth 100000
set_option linter.all false
namespace Go.Proofs.YthbpkpnioaniiaaGreat
open Go.RowKit Go.Proofs.Tryz
open Go.Value renaming int->I,slice->A
open Go.IntKind renaming i64->Z
open Option renaming none->N,some->R
open Go renaming World->Bh,Value->Bk,Calls->Bq,maxLen->Bp
open Go.RowKit renaming Below->Bi
open List renaming cons_append->Cc,nil_append->Bt
open Nat renaming mul_one->Cb,reduceAdd->Bj
theorem Q2n(w:Bh)(v:Bk)(xs:(Ty.slice Ty.int).den)(left:Int)(h:Rx (Ty.slice Ty.int) w [v] xs)(G:0<=left)(H:left<=1048576):
  Bq prog 86 #[v,I Z left] w λe w'=>e=.returned (I Z (Qqs left (Qqy (Ty.slice Ty.int) xs)))/\Bi w.heap.size w w':=by
 obtain⟨p,J,rfl,K,C,E⟩:=Q41 h;clear h;unfold Bp at C;clear E;have B:=qh (Zd (e:=Ty.int) rfl xs);by_cases F:(xs.length:Int)<=left
 ·go_enter func86,ntmps86
  go_wp2;go_ret;exact⟨Qm (by rw[B.o,Q1j F]),Ai _ _⟩
 ·go_enter func86,ntmps86
  go_wp2;go_ret;exact⟨Qm (by rw[B.o,Q0z (by omega)]),Ai _ _⟩
theorem Qen(w:Bh)(v:Bk)(xs:(Ty.slice Q4).den)(left:Int)(h:Rx (Ty.slice Q4) w [v] xs)(G:0<=left)(H:left<=1048576):
  Bq prog 129 #[v,I Z left] w λe w'=>e=.returned (I Z (Qqs left (Qqy (Ty.slice Q4) xs)))/\Bi w.heap.size w w':=by
 obtain⟨p,J,rfl,K,C,E⟩:=Q41 h;clear h;unfold Bp at C;clear E;have B:=qh (Zd (e:=Q4) rfl xs);by_cases F:(xs.length:Int)<=left
 ·go_enter func129,ntmps129
  go_wp2;go_ret;exact⟨Qm (by rw[B.o,Q1j F]),Ai _ _⟩
 ·go_enter func129,ntmps129
  go_wp2;go_ret;exact⟨Qm (by rw[B.o,Q0z (by omega)]),Ai _ _⟩
theorem Qlm(w:Bh)(vs:List Bk)(x:Q3.den)(left:Int)(h:Rx Q3 w vs x)(T:0<=left)(U:left<=1048576):
  Bq prog 83 #[.agg vs.toArray,I Z left] w λe w'=>e=.returned (I Z (Qqs left (Qqy Q3 x)))/\Bi w.heap.size w w':=by
 obtain⟨_,_,rfl,⟨rfl,V⟩,⟨_,_,rfl,⟨rfl,W⟩,⟨_,_,rfl,⟨rfl,X⟩,⟨_,_,rfl,F,G⟩⟩⟩⟩:=h;obtain⟨Y,rfl,F⟩:=Q0d F;obtain⟨a,rfl,G⟩:=Q0d G;try simp only[Cc,Bt]at *
 have K:=qh F;have L:=qh G;clear F G;have E:D ((Qqy Q3 x:Int)=(Qqy (.slice .int) x.2.2.2.1:Int)+(Qqy (.slice Q4) x.2.2.2.2:Int)):=by unfold D;simp[Qqy];try omega
 generalize hg0:Qqy (.slice .int) x.2.2.2.1=n0 at E;have H:=qh hg0;clear hg0;generalize hg1:Qqy (.slice Q4) x.2.2.2.2=n1 at E;have J:=qh hg1;clear hg1;go_enter func83,ntmps83;go_wp2_with fail
 by_cases M:(n0:Int)<=left;rotate_left
 ·refine((Qqx.no Q2n) _ _ _ _ (Rx.kept K.o (Am (by go_grown))) (by omega) (by omega) (by rw[H.o];exact M)).mono ?_
  rintro e w1 ⟨rfl,B⟩;have O:Bi w.heap.size w w1:=Q0 (by go_grown) B;clear B;go_wp2;go_ret;exact⟨Qm (by rw[Q0z];(try rw[E.o]);omega),O⟩
 refine((Qqx.yes Q2n) _ _ _ _ (Rx.kept K.o (Am (by go_grown))) (by omega) (by omega) (by rw[H.o];exact M)).mono ?_;rintro e w1 ⟨rfl,B⟩;rw[H.o];obtain⟨b,c⟩:=V8 B;have O:Bi w.heap.size w w1:=Q0 (by go_grown) B;have d:w.heap.size<w1.heap.size:=by have:=B.size;(try simp at this);omega
 clear B;go_wp2_with fail
 by_cases P:(n1:Int)<=left-n0;rotate_left
 ·refine((Qqx.no Qen) _ _ _ _ (Rx.kept L.o (Am (by go_grown))) (by omega) (by omega) (by rw[J.o];exact P)).mono ?_
  rintro e w2 ⟨rfl,C⟩;have S:Bi w.heap.size w w2:=Q0 (by go_grown) C;clear C;go_wp2;go_ret;exact⟨Qm (by rw[Q0z];(try rw[E.o]);omega),S⟩
 refine((Qqx.yes Qen) _ _ _ _ (Rx.kept L.o (Am (by go_grown))) (by omega) (by omega) (by rw[J.o];exact P)).mono ?_;rintro e w2 ⟨rfl,C⟩;rw[J.o];obtain⟨f,g⟩:=V8 C;have S:Bi w.heap.size w w2:=Q0 (by go_grown) C;have i:w.heap.size<w2.heap.size:=by have:=C.size;(try simp at this);omega
 clear C;go_wp2_with fail
 go_ret;exact⟨Qm (by rw[Q1j (by(try rw[E.o]);omega)];(try rw[E.o]);(try omega)),by go_grown⟩
theorem Qbr:Qqx 45 (.slice Q3):=Q8l.1 Qlm
theorem Qov(w:Bh)(vs:List Bk)(x:Je.den)(left:Int)(h:Rx Je w vs x)(K:0<=left)(L:left<=1048576):
  Bq prog 17 #[.agg vs.toArray,I Z left] w λe w'=>e=.returned (I Z (Qqs left (Qqy Je x)))/\Bi w.heap.size w w':=by
 have C:=h;obtain⟨M,rfl,C⟩:=Q0d C;try simp only[Cc,Bt]at *
 have G:=qh C;clear C;generalize hg0:Qqy (.slice Q3) x=n0;have E:=qh hg0;clear hg0;have F:D ((Qqy Je x:Int)=n0):=by unfold D;rw[<-E.o]
 go_enter func17,ntmps17;go_wp2_with fail
 by_cases H:(n0:Int)<=left;rotate_left
 ·refine((Qqx.no Qbr) _ _ _ _ (Rx.kept G.o (Am (by go_grown))) (by omega) (by omega) (by rw[E.o];exact H)).mono ?_
  rintro e w1 ⟨rfl,B⟩;have J:Bi w.heap.size w w1:=Q0 (by go_grown) B;clear B;go_wp2;go_ret;exact⟨Qm (by rw[Q0z];(try rw[F.o]);omega),J⟩
 refine((Qqx.yes Qbr) _ _ _ _ (Rx.kept G.o (Am (by go_grown))) (by omega) (by omega) (by rw[E.o];exact H)).mono ?_;rintro e w1 ⟨rfl,B⟩;rw[E.o];obtain⟨O,P⟩:=V8 B;have J:Bi w.heap.size w w1:=Q0 (by go_grown) B;have S:w.heap.size<w1.heap.size:=by have:=B.size;(try simp at this);omega
 clear B;go_wp2_with fail
 go_ret;exact⟨Qm (by rw[Q1j (by(try rw[F.o]);omega)];(try rw[F.o]);(try omega)),by go_grown⟩
theorem Qh9:Qqx 4 (.slice Je):=Q8l.2.2.1 Qov
theorem Qdt(w:Bh)(v:Bk)(xs:(Ty.slice Q4).den)(left:Int)(h:Rx (Ty.slice Q4) w [v] xs)(G:0<=left)(H:left<=1048576):
  Bq prog 130 #[v,I Z left] w λe w'=>e=.returned (I Z (Qqs left (Qqy (Ty.slice Q4) xs)))/\Bi w.heap.size w w':=by
 obtain⟨p,J,rfl,K,C,E⟩:=Q41 h;clear h;unfold Bp at C;clear E;have B:=qh (Zd (e:=Q4) rfl xs);by_cases F:(xs.length:Int)<=left
 ·go_enter func130,ntmps130
  go_wp2;go_ret;exact⟨Qm (by rw[B.o,Q1j F]),Ai _ _⟩
 ·go_enter func130,ntmps130
  go_wp2;go_ret;exact⟨Qm (by rw[B.o,Q0z (by omega)]),Ai _ _⟩
theorem Q6u(w:Bh)(v:Bk)(xs:(Ty.slice Q4).den)(left:Int)(h:Rx (Ty.slice Q4) w [v] xs)(G:0<=left)(H:left<=1048576):
  Bq prog 47 #[v,I Z left] w λe w'=>e=.returned (I Z (Qqs left (Qqy (Ty.slice Q4) xs)))/\Bi w.heap.size w w':=by
 obtain⟨p,J,rfl,K,C,E⟩:=Q41 h;clear h;unfold Bp at C;clear E;have B:=qh (Zd (e:=Q4) rfl xs);by_cases F:(xs.length:Int)<=left
 ·go_enter func47,ntmps47
  go_wp2;go_ret;exact⟨Qm (by rw[B.o,Q1j F]),Ai _ _⟩
 ·go_enter func47,ntmps47
  go_wp2;go_ret;exact⟨Qm (by rw[B.o,Q0z (by omega)]),Ai _ _⟩
theorem Qdr(w:Bh)(v:Bk)(xs:(Ty.slice Qu).den)(left:Int)(h:Rx (Ty.slice Qu) w [v] xs)(G:0<=left)(H:left<=1048576):
  Bq prog 85 #[v,I Z left] w λe w'=>e=.returned (I Z (Qqs left (Qqy (Ty.slice Qu) xs)))/\Bi w.heap.size w w':=by
 obtain⟨p,J,rfl,K,C,E⟩:=Q41 h;clear h;unfold Bp at C;clear E;have B:=qh (Zd (e:=Qu) rfl xs);by_cases F:(xs.length:Int)<=left
 ·go_enter func85,ntmps85
  go_wp2;go_ret;exact⟨Qm (by rw[B.o,Q1j F]),Ai _ _⟩
 ·go_enter func85,ntmps85
  go_wp2;go_ret;exact⟨Qm (by rw[B.o,Q0z (by omega)]),Ai _ _⟩
theorem Qmd(w:Bh)(vs:List Bk)(x:Q3.den)(left:Int)(h:Rx Q3 w vs x)(T:0<=left)(U:left<=1048576):
  Bq prog 84 #[.agg vs.toArray,I Z left] w λe w'=>e=.returned (I Z (Qqs left (Qqy Q3 x)))/\Bi w.heap.size w w':=by
 obtain⟨_,_,rfl,⟨rfl,V⟩,⟨_,_,rfl,⟨rfl,W⟩,⟨_,_,rfl,⟨rfl,X⟩,⟨_,_,rfl,F,G⟩⟩⟩⟩:=h;obtain⟨Y,rfl,F⟩:=Q0d F;obtain⟨a,rfl,G⟩:=Q0d G;try simp only[Cc,Bt]at *
 have K:=qh F;have L:=qh G;clear F G;have E:D ((Qqy Q3 x:Int)=(Qqy (.slice .int) x.2.2.2.1:Int)+(Qqy (.slice Q4) x.2.2.2.2:Int)):=by unfold D;simp[Qqy];try omega
 generalize hg0:Qqy (.slice .int) x.2.2.2.1=n0 at E;have H:=qh hg0;clear hg0;generalize hg1:Qqy (.slice Q4) x.2.2.2.2=n1 at E;have J:=qh hg1;clear hg1;go_enter func84,ntmps84;go_wp2_with fail
 by_cases M:(n0:Int)<=left;rotate_left
 ·refine((Qqx.no Q2n) _ _ _ _ (Rx.kept K.o (Am (by go_grown))) (by omega) (by omega) (by rw[H.o];exact M)).mono ?_
  rintro e w1 ⟨rfl,B⟩;have O:Bi w.heap.size w w1:=Q0 (by go_grown) B;clear B;go_wp2;go_ret;exact⟨Qm (by rw[Q0z];(try rw[E.o]);omega),O⟩
 refine((Qqx.yes Q2n) _ _ _ _ (Rx.kept K.o (Am (by go_grown))) (by omega) (by omega) (by rw[H.o];exact M)).mono ?_;rintro e w1 ⟨rfl,B⟩;rw[H.o];obtain⟨b,c⟩:=V8 B;have O:Bi w.heap.size w w1:=Q0 (by go_grown) B;have d:w.heap.size<w1.heap.size:=by have:=B.size;(try simp at this);omega
 clear B;go_wp2_with fail
 by_cases P:(n1:Int)<=left-n0;rotate_left
 ·refine((Qqx.no Qdt) _ _ _ _ (Rx.kept L.o (Am (by go_grown))) (by omega) (by omega) (by rw[J.o];exact P)).mono ?_
  rintro e w2 ⟨rfl,C⟩;have S:Bi w.heap.size w w2:=Q0 (by go_grown) C;clear C;go_wp2;go_ret;exact⟨Qm (by rw[Q0z];(try rw[E.o]);omega),S⟩
 refine((Qqx.yes Qdt) _ _ _ _ (Rx.kept L.o (Am (by go_grown))) (by omega) (by omega) (by rw[J.o];exact P)).mono ?_;rintro e w2 ⟨rfl,C⟩;rw[J.o];obtain⟨f,g⟩:=V8 C;have S:Bi w.heap.size w w2:=Q0 (by go_grown) C;have i:w.heap.size<w2.heap.size:=by have:=C.size;(try simp at this);omega
 clear C;go_wp2_with fail
 go_ret;exact⟨Qm (by rw[Q1j (by(try rw[E.o]);omega)];(try rw[E.o]);(try omega)),by go_grown⟩
theorem Qeh:Qqx 46 (.slice Q3):=Q8l.2.1 Qmd
theorem Qbs(w:Bh)(vs:List Bk)(x:Qo.den)(left:Int)(h:Rx Qo w vs x)(U:0<=left)(V:left<=1048576):
  Bq prog 18 #[.agg vs.toArray,I Z left] w λe w'=>e=.returned (I Z (Qqs left (Qqy Qo x)))/\Bi w.heap.size w w':=by
 obtain⟨_,_,rfl,F,⟨_,_,rfl,⟨rfl,W⟩,⟨_,_,rfl,L,G⟩⟩⟩:=h;obtain⟨H,rfl,F⟩:=Q0d F;obtain⟨X,rfl,G⟩:=Q0d G;have Y:=qh L;obtain⟨_,_,rfl,⟨rfl,a⟩,⟨rfl,b⟩⟩:=L;try simp only[Cc,Bt]at *
 have M:=qh F;have O:=qh G;clear F G;have E:D ((Qqy Qo x:Int)=(Qqy (.slice Q3) x.1:Int)+(Qqy (.slice Q4) x.2.2.2:Int)):=by unfold D;simp[Qqy];try omega
 generalize hg0:Qqy (.slice Q3) x.1=n0 at E;have J:=qh hg0;clear hg0;generalize hg1:Qqy (.slice Q4) x.2.2.2=n1 at E;have K:=qh hg1;clear hg1;go_enter func18,ntmps18;go_wp2_with fail
 by_cases P:(n0:Int)<=left;rotate_left
 ·refine((Qqx.no Qeh) _ _ _ _ (Rx.kept M.o (Am (by go_grown))) (by omega) (by omega) (by rw[J.o];exact P)).mono ?_
  rintro e w1 ⟨rfl,B⟩;have S:Bi w.heap.size w w1:=Q0 (by go_grown) B;clear B;go_wp2;go_ret;exact⟨Qm (by rw[Q0z];(try rw[E.o]);omega),S⟩
 refine((Qqx.yes Qeh) _ _ _ _ (Rx.kept M.o (Am (by go_grown))) (by omega) (by omega) (by rw[J.o];exact P)).mono ?_;rintro e w1 ⟨rfl,B⟩;rw[J.o];obtain⟨c,d⟩:=V8 B;have S:Bi w.heap.size w w1:=Q0 (by go_grown) B;have f:w.heap.size<w1.heap.size:=by have:=B.size;(try simp at this);omega
 clear B;go_wp2_with fail
 by_cases H:(n1:Int)<=left-n0;rotate_left
 ·refine((Qqx.no Q6u) _ _ _ _ (Rx.kept O.o (Am (by go_grown))) (by omega) (by omega) (by rw[K.o];exact H)).mono ?_
  rintro e w2 ⟨rfl,C⟩;have T:Bi w.heap.size w w2:=Q0 (by go_grown) C;clear C;go_wp2;go_ret;exact⟨Qm (by rw[Q0z];(try rw[E.o]);omega),T⟩
 refine((Qqx.yes Q6u) _ _ _ _ (Rx.kept O.o (Am (by go_grown))) (by omega) (by omega) (by rw[K.o];exact H)).mono ?_;rintro e w2 ⟨rfl,C⟩;rw[K.o];obtain⟨g,i⟩:=V8 C;have T:Bi w.heap.size w w2:=Q0 (by go_grown) C;have j:w.heap.size<w2.heap.size:=by have:=C.size;(try simp at this);omega
 clear C;go_wp2_with fail
 go_ret;exact⟨Qm (by rw[Q1j (by(try rw[E.o]);omega)];(try rw[E.o]);(try omega)),by go_grown⟩
theorem Qj8(w:Bh)(vs:List Bk)(x:Qc.den)(left:Int)(h:Rx Qc w vs x)(b:0<=left)(c:left<=1048576):
  Bq prog 48 #[.agg vs.toArray,I Z left] w λe w'=>e=.returned (I Z (Qqs left (Qqy Qc x)))/\Bi w.heap.size w w':=by
 obtain⟨_,_,rfl,⟨rfl,d⟩,⟨_,_,rfl,⟨rfl,f⟩,⟨_,_,rfl,G,⟨_,_,rfl,H,J⟩⟩⟩⟩:=h;obtain⟨g,rfl,G⟩:=Q0d G;obtain⟨i,rfl,H⟩:=Q0d H;obtain⟨j,rfl,J⟩:=Q0d J;try simp only[Cc,Bt]at *
 have P:=qh G;have S:=qh H;have T:=qh J;clear G H J;have B:D ((Qqy Qc x:Int)=(Qqy (.slice Q4) x.2.2.1:Int)+(Qqy (.slice Qu) x.2.2.2.1:Int)+(Qqy (.slice .int) x.2.2.2.2:Int)):=by unfold D;simp[Qqy];try omega
 generalize hg0:Qqy (.slice Q4) x.2.2.1=n0 at B;have L:=qh hg0;clear hg0;generalize hg1:Qqy (.slice Qu) x.2.2.2.1=n1 at B;have M:=qh hg1;clear hg1;generalize hg2:Qqy (.slice .int) x.2.2.2.2=n2 at B;have O:=qh hg2;clear hg2;go_enter func48,ntmps48;go_wp2_with fail
 by_cases U:(n0:Int)<=left;rotate_left
 ·refine((Qqx.no Q6u) _ _ _ _ (Rx.kept P.o (Am (by go_grown))) (by omega) (by omega) (by rw[L.o];exact U)).mono ?_
  rintro e w1 ⟨rfl,C⟩;have V:Bi w.heap.size w w1:=Q0 (by go_grown) C;clear C;go_wp2;go_ret;exact⟨Qm (by rw[Q0z];(try rw[B.o]);omega),V⟩
 refine((Qqx.yes Q6u) _ _ _ _ (Rx.kept P.o (Am (by go_grown))) (by omega) (by omega) (by rw[L.o];exact U)).mono ?_;rintro e w1 ⟨rfl,C⟩;rw[L.o];obtain⟨k,l⟩:=V8 C;have V:Bi w.heap.size w w1:=Q0 (by go_grown) C;have m:w.heap.size<w1.heap.size:=by have:=C.size;(try simp at this);omega
 clear C;go_wp2_with fail
 by_cases W:(n1:Int)<=left-n0;rotate_left
 ·refine((Qqx.no Qdr) _ _ _ _ (Rx.kept S.o (Am (by go_grown))) (by omega) (by omega) (by rw[M.o];exact W)).mono ?_
  rintro e w2 ⟨rfl,E⟩;have X:Bi w.heap.size w w2:=Q0 (by go_grown) E;clear E;go_wp2;go_ret;exact⟨Qm (by rw[Q0z];(try rw[B.o]);omega),X⟩
 refine((Qqx.yes Qdr) _ _ _ _ (Rx.kept S.o (Am (by go_grown))) (by omega) (by omega) (by rw[M.o];exact W)).mono ?_;rintro e w2 ⟨rfl,E⟩;rw[M.o];obtain⟨n,o⟩:=V8 E;have X:Bi w.heap.size w w2:=Q0 (by go_grown) E;have p:w.heap.size<w2.heap.size:=by have:=E.size;(try simp at this);omega
 clear E;go_wp2_with fail
 by_cases Y:(n2:Int)<=left-n0-n1;rotate_left
 ·refine((Qqx.no Q2n) _ _ _ _ (Rx.kept T.o (Am (by go_grown))) (by omega) (by omega) (by rw[O.o];exact Y)).mono ?_
  rintro e K ⟨rfl,F⟩;have a:Bi w.heap.size w K:=Q0 (by go_grown) F;clear F;go_wp2;go_ret;exact⟨Qm (by rw[Q0z];(try rw[B.o]);omega),a⟩
 refine((Qqx.yes Q2n) _ _ _ _ (Rx.kept T.o (Am (by go_grown))) (by omega) (by omega) (by rw[O.o];exact Y)).mono ?_;rintro e K ⟨rfl,F⟩;rw[O.o];obtain⟨q,r⟩:=V8 F;have a:Bi w.heap.size w K:=Q0 (by go_grown) F;have s:w.heap.size<K.heap.size:=by have:=F.size;(try simp at this);omega
 clear F;go_wp2_with fail
 go_ret;exact⟨Qm (by rw[Q1j (by(try rw[B.o]);omega)];(try rw[B.o]);(try omega)),by go_grown⟩
theorem Qa6:Qqx 19 (.slice Qc):=Q8l.2.2.2 Qj8
theorem Qgq(w:Bh)(vs:List Bk)(x:Qr.den)(left:Int)(h:Rx Qr w vs x)(W:0<=left)(X:left<=1048576):
  Bq prog 5 #[.agg vs.toArray,I Z left] w λe w'=>e=.returned (I Z (Qqs left (Qqy Qr x)))/\Bi w.heap.size w w':=by
 obtain⟨_,_,rfl,L,⟨_,_,rfl,F,⟨rfl,Y⟩⟩⟩:=h;obtain⟨a,rfl,F⟩:=Q0d F;have M:=qh L;obtain⟨_,_,rfl,G,⟨_,_,rfl,⟨rfl,b⟩,⟨_,_,rfl,O,H⟩⟩⟩:=L;obtain⟨c,rfl,G⟩:=Q0d G;obtain⟨d,rfl,H⟩:=Q0d H;have f:=qh O;obtain⟨_,_,rfl,⟨rfl,g⟩,⟨rfl,i⟩⟩:=O;try simp only[Cc,Bt]at *
 have P:=qh F;have j:=qh G;have k:=qh H;clear F G H;have E:D ((Qqy Qr x:Int)=(Qqy Qo x.1:Int)+(Qqy (.slice Qc) x.2.1:Int)):=by unfold D;simp[Qqy];try omega
 generalize hg0:Qqy Qo x.1=n0 at E;have J:=qh hg0;clear hg0;generalize hg1:Qqy (.slice Qc) x.2.1=n1 at E;have K:=qh hg1;clear hg1;go_enter func5,ntmps5;go_wp2_with fail
 by_cases S:(n0:Int)<=left;rotate_left
 ·refine((Qq7.no Qbs) _ _ _ _ (Rx.kept M.o (Am (by go_grown))) (by omega) (by omega) (by rw[J.o];exact S)).mono ?_
  rintro e w1 ⟨rfl,B⟩;have T:Bi w.heap.size w w1:=Q0 (by go_grown) B;clear B;go_wp2;go_ret;exact⟨Qm (by rw[Q0z];(try rw[E.o]);omega),T⟩
 refine((Qq7.yes Qbs) _ _ _ _ (Rx.kept M.o (Am (by go_grown))) (by omega) (by omega) (by rw[J.o];exact S)).mono ?_;rintro e w1 ⟨rfl,B⟩;rw[J.o];obtain⟨l,m⟩:=V8 B;have T:Bi w.heap.size w w1:=Q0 (by go_grown) B;have n:w.heap.size<w1.heap.size:=by have:=B.size;(try simp at this);omega
 clear B;go_wp2_with fail
 by_cases U:(n1:Int)<=left-n0;rotate_left
 ·refine((Qqx.no Qa6) _ _ _ _ (Rx.kept P.o (Am (by go_grown))) (by omega) (by omega) (by rw[K.o];exact U)).mono ?_
  rintro e w2 ⟨rfl,C⟩;have V:Bi w.heap.size w w2:=Q0 (by go_grown) C;clear C;go_wp2;go_ret;exact⟨Qm (by rw[Q0z];(try rw[E.o]);omega),V⟩
 refine((Qqx.yes Qa6) _ _ _ _ (Rx.kept P.o (Am (by go_grown))) (by omega) (by omega) (by rw[K.o];exact U)).mono ?_;rintro e w2 ⟨rfl,C⟩;rw[K.o];obtain⟨o,p⟩:=V8 C;have V:Bi w.heap.size w w2:=Q0 (by go_grown) C;have q:w.heap.size<w2.heap.size:=by have:=C.size;(try simp at this);omega
 clear C;go_wp2_with fail
 go_ret;exact⟨Qm (by rw[Q1j (by(try rw[E.o]);omega)];(try rw[E.o]);(try omega)),by go_grown⟩
theorem Q6l{w:Bh}{vs:List Bk}{x:Q4.den}{F:List Nat}(h:Ow Q4 w vs x F):vs=[I Z x.1,I Z x.2]:=by
 obtain⟨_,_,_,_,rfl,_,⟨rfl,_,_⟩,⟨rfl,_,_⟩⟩:=h;exact rfl
theorem Qk0{w:Bh}{vs:List Bk}{x:Qu.den}{F:List Nat}(h:Ow Qu w vs x F):vs=[I Z x.1.1,I Z x.1.2,I Z x.2.1,I Z x.2.2]:=by
 obtain⟨_,_,_,_,rfl,_,⟨_,_,_,_,rfl,_,⟨rfl,_,_⟩,⟨rfl,_,_⟩⟩,⟨_,_,_,_,rfl,_,⟨rfl,_,_⟩,⟨rfl,_,_⟩⟩⟩:=h;exact rfl
theorem Qii{w:Bh}{vs:List Bk}{x:Q3.den}{F:List Nat}(h:Ow Q3 w vs x F):∃(B C:Option Addr) (E G:Nat),vs=[I Z x.1,I Z x.2.1,I Z x.2.2.1,A B x.2.2.2.1.length E,A C x.2.2.2.2.length G]:=by
 obtain⟨_,_,_,_,rfl,_,⟨rfl,_,_⟩,⟨_,_,_,_,rfl,_,⟨rfl,_,_⟩,⟨_,_,_,_,rfl,_,⟨rfl,_,_⟩,⟨_,_,_,_,rfl,_,s0,s1⟩⟩⟩⟩:=h;obtain⟨q0,H,rfl,_⟩:=Jx s0;obtain⟨q1,J,rfl,_⟩:=Jx s1;exact⟨q0,q1,H,J,rfl⟩
theorem Qmo{w:Bh}{vs:List Bk}{x:Je.den}{F:List Nat}(h:Ow Je w vs x F):∃(B:Option Addr) (C:Nat),vs=[A B x.length C]:=by
 have s0:=h;obtain⟨q0,E,rfl,_⟩:=Jx s0;exact⟨q0,E,rfl⟩
theorem Qfa{w:Bh}{vs:List Bk}{x:Qo.den}{F:List Nat}(h:Ow Qo w vs x F):∃(B C:Option Addr) (E G:Nat),vs=[A B x.1.length E,I Z x.2.1,I Z x.2.2.1.1,I Z x.2.2.1.2,A C x.2.2.2.length G]:=by
 obtain⟨_,_,_,_,rfl,_,s0,⟨_,_,_,_,rfl,_,⟨rfl,_,_⟩,⟨_,_,_,_,rfl,_,⟨_,_,_,_,rfl,_,⟨rfl,_,_⟩,⟨rfl,_,_⟩⟩,s1⟩⟩⟩:=h;obtain⟨q0,H,rfl,_⟩:=Jx s0;obtain⟨q1,J,rfl,_⟩:=Jx s1;exact⟨q0,q1,H,J,rfl⟩
theorem Qf3{w:Bh}{vs:List Bk}{x:Qc.den}{F:List Nat}(h:Ow Qc w vs x F):∃(B C E:Option Addr) (G H J:Nat),vs=[I Z x.1,I Z x.2.1,A B x.2.2.1.length G,A C x.2.2.2.1.length H,A E x.2.2.2.2.length J]:=by
 obtain⟨_,_,_,_,rfl,_,⟨rfl,_,_⟩,⟨_,_,_,_,rfl,_,⟨rfl,_,_⟩,⟨_,_,_,_,rfl,_,s0,⟨_,_,_,_,rfl,_,s1,s2⟩⟩⟩⟩:=h;obtain⟨q0,K,rfl,_⟩:=Jx s0;obtain⟨q1,L,rfl,_⟩:=Jx s1;obtain⟨M,O,rfl,_⟩:=Jx s2;exact⟨q0,q1,M,K,L,O,rfl⟩
abbrev Qqv(f:Nat)(t:Ty):Prop:=∀(w:Bh) (vs:List Bk) (x:t.den),Rx t w vs x->Qqy t x<=1048576->Bq prog f #[.agg vs.toArray] w (Q24 t w x)
abbrev Qr1(f:Nat)(t:Ty):Prop:=∀(w:Bh) (v:Bk) (xs:t.den),Rx t w [v] xs->Qqy t xs<=1048576->Bq prog f #[v] w (Qhp t w xs)
abbrev Qr0(s e:TypeId)(t:Ty):Prop:=∀n:Nat,n<=1048576->∃cur:Array Bk,cur.size=n * t.sz/\∀w:Bh,(Instr.makeSlice s (I Z (n:Int)) (I Z (n:Int))).run prog w=.ok (A (R ⟨w.heap.size,0,N⟩) n n) (w.alloc (.cells cur e))
theorem Qr6{s e:TypeId}{t:Ty}{z:Bk}{b:Nat}(h:(prog.info? e).map (λi=>(i.zero,i.size,i.bytes))=R (R z,t.sz,b))(C:prog.underlying s=R (.slice e))(E:b<=200)(M:z.cells.size=t.sz):Qr0 s e t:=λn F=>by
 obtain⟨G,H,J,K,L⟩:=info_parts h;refine⟨madeCells z.cells (n * t.sz),size_madeCells _ _,λw=> ?_⟩;have B:=run_make (P:=prog) w s e G z C H J Z Z (n:Int) (n:Int) (by omega) (by omega) (by rw[L];have:=Nat.mul_le_mul F E;first|omega|(rw[Nat.mul_comm]at *;omega)) (by omega);rw[K]at B;simpa using B
theorem Q38:(Qqv 195 Q4->Qr0 126 185 Q4->Qr1 150 (.slice Q4))/\(Qqv 57 Q4->Qr0 132 40 Q4->Qr1 151 (.slice Q4))/\(Qqv 102 Q4->Qr0 41 117 Q4->Qr1 58 (.slice Q4))/\(Qqv 152 Qu->Qr0 97 120 Qu->Qr1 103 (.slice Qu))/\(Qqv 100 Q3->Qr0 69 128 Q3->Qr1 55 (.slice Q3))/\(Qqv 101 Q3->Qr0 39 134 Q3->Qr1 56 (.slice Q3))/\(Qqv 25 Je->Qr0 37 71 Je->Qr1 7 (.slice Je))/\(Qqv 59 Qc->Qr0 44 99 Qc->Qr1 27 (.slice Qc)):=by
 refine⟨?_, ?_, ?_, ?_, ?_, ?_, ?_, ?_⟩
 all_goals
  intro H Y w v xs h s;obtain⟨p,A4,rfl,A5,t,a⟩:=Q41 h;clear h;unfold Bp at t;rw[Q0a]at s;have u:List.length xs<=1048576:=by omega
  obtain⟨y,G,z⟩:=Y _ u;have HE:=qh H;have HC:=qh G;have HX:=qh a;clear H G a Y;have HS:=qh (λT=>Jh.start (T:=T) (xs:=xs) (B:=w.heap.size) (heap_alloc_new w (.cells y T)) HC.o (Aj _))
 all_goals(first|(go_enter func150,ntmps150)|(go_enter func151,ntmps151)|(go_enter func58,ntmps58)|(go_enter func103,ntmps103)|(go_enter func55,ntmps55)|(go_enter func56,ntmps56)|(go_enter func7,ntmps7)|(go_enter func27,ntmps27))
 all_goals go_wp2
 all_goals
  go_loopw [4] (λi wr=>∃k:Nat,k<=xs.length/\i=I Z k/\D (Jh _ _ w.heap.size w.heap.size xs.length xs k wr)/\Bi w.heap.size w wr) (λi _=>xs.length-(intOf i).toNat);case atStart=>exact⟨0,Ak _,rfl,HS.o _,by go_grown⟩
  case round=>
   obtain⟨k,hk,rfl,O,c⟩:=hrel;clear z;by_cases K:k<xs.length
   ·obtain⟨b,o,rfl,cs,G,C,P⟩:=HX.o k K
    have d:Qqy _ xs[k]<=1048576:=by have h1:=Q4g K;have h2:=Q7v xs (k+1);omega
    generalize hxk:xs[k]=x at P d;have A0:=qh hxk;clear hxk;have HR:=qh P;clear P;have C:=C.kept (Am c)
    first
     |(obtain⟨S,f,rfl⟩:=Ql5 G;simp only[Ty.sz,Cb,Bj]at C;obtain⟨U,g⟩:=Qcy C)
     |(obtain⟨S,f,a2,a3,rfl⟩:=Qif G;simp only[Ty.sz,Cb,Bj]at C;obtain⟨U,g,c2,c3⟩:=Qm3 C)
     |(obtain⟨S,f,a2,a3,a4,rfl⟩:=Qi8 G;simp only[Ty.sz,Cb,Bj]at C;obtain⟨U,g,c2,c3,c4⟩:=Q4b C)
     |(obtain⟨S,rfl⟩:=Qe4 G;simp only[Ty.sz,Cb,Bj]at C;have U:=Qac C)
    clear C G;go_wp2_with fail
    refine(HE.o _ _ _ (Rx.kept HR.o (Am (by go_grown))) d).mono ?_;rintro e w1 ⟨vs,rfl,A1,M⟩;have V:=qh (O.o.kept M);have A6:Bi w.heap.size w w1:=Q0 (by go_grown) M;obtain⟨F,J,j⟩:=A1;have A2:=qh M;have HO:=qh J;have l:=qh j;clear j M
    first
     |obtain rfl:=Q6l J
     |obtain rfl:=Qk0 J
     |obtain⟨q0,q1,m,d1,rfl⟩:=Qii J
     |obtain⟨q0,m,rfl⟩:=Qmo J
     |obtain⟨q0,q1,q2,m,d1,d2,rfl⟩:=Qf3 J
    obtain⟨us,L,E⟩:=V.o.next K
    first
     |(obtain⟨W,n,rfl⟩:=Ql5 L;simp only[Ty.sz,Cb,Bj]at E;obtain⟨X,q⟩:=Qcy E)
     |(obtain⟨W,n,u2,u3,rfl⟩:=Qif L;simp only[Ty.sz,Cb,Bj]at E;obtain⟨X,q,e2,e3⟩:=Qm3 E)
     |(obtain⟨W,n,u2,u3,u4,rfl⟩:=Qi8 L;simp only[Ty.sz,Cb,Bj]at E;obtain⟨X,q,e2,e3,e4⟩:=Q4b E)
     |(obtain⟨W,rfl⟩:=Qe4 L;simp only[Ty.sz,Cb,Bj]at E;have X:=Qac E)
    have A7:=V.o.free;have A8:=V.o.lt;have r:=qh (Jh.step_at (w1:=w1) _ _ rfl O.o K K A2.o (by rw[A0.o];exact HO.o) l.o.1 l.o.2);clear L E;go_wp2;go_roundw;case rel=>first|exact⟨k+1,by omega,by go_num,r.o,by go_grown⟩|exact⟨k+1,by omega,by go_num,(by have h:=r.o;rw[show Je.sz=1 from rfl,Cb]at h;exact h),by go_grown⟩
    case measure=>simp[intOf];omega
   ·have A3:xs.length<=k:=by omega
    go_wp2;go_ret;exact⟨_,rfl,O.o.done A3 rfl (by unfold Bp;omega),c⟩
end Go.Proofs.YthbpkpnioaniiaaGreat
