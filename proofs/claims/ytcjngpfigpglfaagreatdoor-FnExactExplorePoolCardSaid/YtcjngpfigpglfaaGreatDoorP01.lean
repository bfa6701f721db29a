import Derived.Test.YtcjngpfigpglfaaGreatDoorP00
set_option maxHeartbeats 0
set_option maxRecDepth 100000
set_option linter.all false
namespace Go.Proofs.YtcjngpfigpglfaaGreatDoor
open Go.RowKit Go.Proofs.Tryz
open Go.Value renaming int->I,slice->A
open Go.IntKind renaming i64->Z
open Option renaming none->N,some->R
open OC(oC)
open OR(oR)
open JN(jN)
open Bool renaming false->Bm,true->Bn,and_eq_true->Bi
open Go renaming World->Bh,Calls->Bv,maxLen->Bu,Addr->Cp,Value->Bk,TypeId->Cd,heap_alloc_new->Bg,info_parts->Ck
open Go.Builtin renaming append->Ft,append_->Fb
open Go.Callee renaming builtin->Fp
open Go.Oper renaming wp->Hc
open Go.Region renaming wanted->Eg
open Go.Result renaming andThen->Fe
open Go.RowKit renaming Below->Bp,intOf->By
open Go.Value renaming ownBlock->Da,agg->Dl
open List renaming cons_append->Bw,nil_append->Bs,flatMap_append->Dy,replicate->Ch,getElem?_eq_some_iff->Ei,flatten_cons->Hw,append_nil->Cl,length_set->Bl,ext_getElem->Hh,countP_append->Ec,countP_cons->Dd,length_drop->Dp,length_take->Cf,getElem?_take->Cm,getElem?_drop->Cu
open Nat renaming mul_one->Cc,zero_mul->Dm,zero_add->Cg,add_zero->Cw
def Q0z(w w':Bh):Prop:=∃n,w'=w.drewN n
theorem Q0z.refl(w):Q0z w w:=⟨0,rfl⟩
theorem Q0z.more{w w'}(h:Q0z w w')(n):Q0z w (w'.drewN n):=let ⟨m,e⟩:=h;⟨m+n,by rw[e,World.drewN_drewN]⟩
theorem Q0z.trans{a b c}(h:Q0z a b)(k:Q0z b c):Q0z a c:=by
 obtain⟨n,rfl⟩:=k;exact h.more n
theorem Q0z.below{w w'}(h:Q0z w w'):Bp w w w':=by
 obtain⟨n,rfl⟩:=h;exact Q8 (Ai _ _) n
def Q00(w v1 T xs ys)(H:Rd (Ty.slice Ty.int) w [v1] xs)(J:Rd (Ty.slice Ty.int) w [T] ys):
  Bv prog 156 #[v1,T] w λe w'=>e=.returned (Qyo (Ty.slice Ty.int) xs ys)/\Q0z w w':=by
 obtain⟨p,n,rfl,r,c,L⟩:=(Ju H).gen;obtain⟨q,s,rfl,t,d,M⟩:=(Ju J).gen;clear H J;unfold Bu at c d;by_cases C:xs.length=ys
 ·have f:((xs:Int) !=(ys:Int))=Bm:=by simp[C]
  have U:=qh C;clear C;have g:=qh L;clear L;have h:=qh M;clear M;go_enter func156,ntmps156;go_wp2;go_loopw [5] (λi wr=>∃k:Nat,k<=xs/\i=I Z k/\Hd (xs.take k=ys.take k)/\Hd (Q0z w wr)) (λi _=>xs.length-(By i).toNat);case atStart=>exact⟨0,Ak _,rfl,rfl,Q0z.refl _⟩
  obtain⟨k,u,rfl,V,E⟩:=hrel;by_cases K:k<xs
  ·have O:k<ys:=by rw[<-U.o];exact K
   obtain⟨b,o,rfl,cs,j,F,W⟩:=g.o k K;obtain⟨b',o',rfl,v,l,G,X⟩:=h.o k O;generalize hxk:xs[k]=x at W;generalize hyk:ys[k]=y at X;have Y:=qh hxk;have a:=qh hyk;clear hxk hyk j l;obtain⟨rfl,_⟩:=W;obtain⟨rfl,_⟩:=X;have F:=F.kb E.o.below;have G:=G.kb E.o.below;simp only[Ty.sz,Cc]at F G;have z:=Qa6 F;have d0:=Qa6 G;clear F G;by_cases B:x=y
   ·have m:(x !=y)=Bm:=by simp[B]
    have P:=qh B;clear B;go_wp2;go_quiet(fail)
    go_wp2;go_roundw;case rel=>exact⟨k+1,by omega,by go_num,Ys K O V (by rw[Y.o,a.o,P.o]),Q0z.more E _⟩
    simp[By];omega
   have m:(x !=y)=Bn:=by simp[B]
   have P:=qh B;clear B;go_wp2;go_quiet(fail)
   go_wp2;go_ret;exact⟨Y1 (by simp[Yi K O (by rw[Y.o,a.o];exact P.o)]),Q0z.more E _⟩
  have H:xs<=k:=by omega
  have J:ys<=k:=by rw[<-U.o];omega
  have S:=qh (Jq V H J);go_wp2;go_ret;exact⟨Y1 (by simp[S.o]),E.o⟩
 have f:((xs:Int) !=(ys:Int))=Bn:=by simp;omega
 have S:=D (xs≠ys) (λe=>C (by rw[e]));clear C L M;go_enter func156,ntmps156;go_wp2;go_ret;exact⟨Y1 (by simp[S.o]),Q0z.refl _⟩
def Q89{w v1 B xs ys}(C:Rd (Ty.slice Ty.int) w [v1] xs)(E:Rd (Ty.slice Ty.int) w [B] ys)(h:xs=ys):
  Bv prog 156 #[v1,B] w λe w'=>e=.returned (.bool Bn)/\∃n,w'=w.drewN n:=
 (Q00 w v1 B xs ys C E).mono λe w' ⟨F,hb⟩=>⟨by rw[F,Js h],hb⟩
def Qht{w v1 B xs ys}(C:Rd (Ty.slice Ty.int) w [v1] xs)(E:Rd (Ty.slice Ty.int) w [B] ys)(h:¬xs=ys):
  Bv prog 156 #[v1,B] w λe w'=>e=.returned (.bool Bm)/\∃n,w'=w.drewN n:=
 (Q00 w v1 B xs ys C E).mono λe w' ⟨F,hb⟩=>⟨by rw[F,Vu h],hb⟩
def At(t:Ty)(w:Bh)(b o:Nat)(x:t.den):Prop:=∃cs,cs.length=t.sz/\Qy2 w b o cs/\Rd t w cs x
theorem At.kept{t w w' b o x}(h:At t w b o x)(k:Qh0 w w'):At t w' b o x:=
 let ⟨cs,h1,h2,h3⟩:=h;⟨cs,h1,h2.kept k,h3.kept k⟩
theorem At.kb{t w w' b o x}(h:At t w b o x)(k:Bp w.heap.size w w'):At t w' b o x:=h.kept (Am k)
def Qbk(w b o b' o' x y)(W:At Q4 w b o x)(X:At Q4 w b' o' y):
  Bv prog 155 #[(b,o),(b',o')] w λe w'=>e=.returned (Qyo Q4 x y)/\Q0z w w':=by
 obtain⟨cs,_,s,⟨_,_,rfl,⟨rfl,i0⟩,_,_,rfl,⟨rfl,i1⟩,_,_,rfl,⟨rfl,i2⟩,_,_,rfl,O,P⟩⟩:=W;obtain⟨A6,_,t,⟨_,_,rfl,⟨rfl,j0⟩,_,_,rfl,⟨rfl,j1⟩,_,_,rfl,⟨rfl,j2⟩,_,_,rfl,S,T⟩⟩:=X;obtain⟨d,rfl,O⟩:=Q0i O;obtain⟨d',rfl,S⟩:=Q0i S;obtain⟨p,rfl,P⟩:=Q0i P;obtain⟨p',rfl,T⟩:=Q0i T;obtain⟨Y,a,c,x3,B⟩:=x;obtain⟨f,g,h,y3,E⟩:=y;simp only[Bw,Bs]at *
 obtain⟨c0,c1,c2,c3,u⟩:=Q5v s;obtain⟨e0,e1,e2,e3,v⟩:=Q5v t;have j:=qh O;have l:=qh S;clear O S s t;by_cases q0:Y=f;rotate_left
 ·have z:(Y !=f)=Bn:=by simp[q0]
  have C:=qh q0;clear q0;go_enter func155,ntmps155;go_wp2
  go_quiet(fail)
  go_wp2;go_ret;exact⟨Y1 (by simp[C.o]),⟨_,rfl⟩⟩
 have z:(Y !=f)=Bm:=by simp[q0]
 have A7:=qh q0;clear q0;by_cases q1:a=g;rotate_left
 ·have t1:(a !=g)=Bn:=by simp[q1]
  have C:=qh q1;clear q1;go_enter func155,ntmps155;go_wp2
  go_quiet(fail)
  go_wp2;go_ret;exact⟨Y1 (by simp[C.o]),⟨_,rfl⟩⟩
 have t1:(a !=g)=Bm:=by simp[q1]
 have A8:=qh q1;clear q1;by_cases G:c=h;rotate_left
 ·have t2:(c !=h)=Bn:=by simp[G]
  have C:=qh G;clear G;go_enter func155,ntmps155;go_wp2
  go_quiet(fail)
  go_wp2;go_ret;exact⟨Y1 (by simp[C.o]),⟨_,rfl⟩⟩
 have t2:(c !=h)=Bm:=by simp[G]
 have A9:=qh G;clear G;obtain⟨pa,ca,rfl,AG,AA,hw⟩:=(Ju P).gen;obtain⟨pb,cb,rfl,AH,AB,A0⟩:=(Ju T).gen;unfold Bu at AA AB;clear P T;have HW:=qh hw;have AC:=qh A0;clear hw A0;by_cases U:x3=y3;rotate_left
 ·have C:=qh U;clear U
  go_enter func155,ntmps155;go_wp2
  go_quiet(((go_at_call 156;exact Calls.quiet_of (Qht (j.o.kb (Q8 (Ai _ _) _)) (l.o.kb (Q8 (Ai _ _) _)) C))))
  go_wp2;go_ret;exact⟨Y1 (by simp[C.o]),⟨_,rfl⟩⟩
 have m:=qh U;clear U;by_cases L:B.length=E;rotate_left
 ·have t4:((B:Int) !=(E:Int))=Bn:=by simp;omega
  have C:=D (¬B=E) (λe=>L (by rw[e]));clear L;go_enter func155,ntmps155;go_wp2
  go_quiet(((go_at_call 156;exact Calls.quiet_of (Q89 (j.o.kb (Q8 (Ai _ _) _)) (l.o.kb (Q8 (Ai _ _) _)) m.o))))
  go_wp2;go_ret;exact⟨Y1 (by simp[C.o]),⟨_,rfl⟩⟩
 have t4:((B:Int) !=(E:Int))=Bm:=by simp[L]
 have HL:=qh L;clear L;go_enter func155,ntmps155;go_wp2
 go_quiet(((go_at_call 156;exact Calls.quiet_of (Q89 (j.o.kb (Q8 (Ai _ _) _)) (l.o.kb (Q8 (Ai _ _) _)) m.o))))
 go_wp2;have AD:=D (Q0z w (w.drewN nq)) (⟨_,rfl⟩);generalize w.drewN nq=w0 at *
 go_loopw [5] (λi wr=>∃k:Nat,k<=B/\i=I Z k/\Hd (B.take k=E.take k)/\Hd (Q0z w wr)) (λi _=>B.length-(By i).toNat);case atStart=>exact⟨0,Ak _,rfl,rfl,AD⟩
 obtain⟨k,hk,rfl,HT,F⟩:=hrel;have AI:=jC F.o.below u;have AJ:=jC F.o.below v;by_cases V:k<B
 ·have n:k<E:=by rw[<-HL.o];exact V
  obtain⟨b1,o1,rfl,cs,AE,H,A1⟩:=HW.o k V;obtain⟨b2,o2,rfl,A6,AF,J,A2⟩:=AC.o k n;generalize hxk:B[k]=x at A1;generalize hyk:E[k]=y at A2;have A3:=qh hxk;have A4:=qh hyk;clear hxk hyk AE AF;obtain⟨_,_,rfl,⟨rfl,m0⟩,⟨rfl,m1⟩⟩:=A1;obtain⟨_,_,rfl,⟨rfl,n0⟩,⟨rfl,n1⟩⟩:=A2;simp only[Bw,Bs]at H J;have hq:=λw=>Q3a m0 m1 n0 n1 w;have H:=H.kb F.o.below;have J:=J.kb F.o.below;simp only[Ty.sz,Nat.reduceAdd]at H J;obtain⟨f0,f1⟩:=Qg6 H;obtain⟨g0,g1⟩:=Qg6 J;clear H J m0 m1 n0 n1 c0 c1 c2 c3 u e0 e1 e2 e3 v i0 i1 i2 j0 j1 j2 z t1 t2 t4;by_cases K:x=y
  ·have M:(x.1==y.1 && x.2==y.2)=Bn:=by simp[K]
   have q:=qh K;clear K;rw[M]at hq;clear M;go_wp2;go_quiet(fail)
   go_wp2;go_roundw;case rel=>exact⟨k+1,by omega,by go_num,Ys V n HT (by rw[A3.o,A4.o,q.o]),Q0z.more F _⟩
   simp[By];omega
  have M:(x.1==y.1 && x.2==y.2)=Bm:=by rw[Bool.eq_false_iff];intro r;apply K;simp only[Bi,beq_iff_eq]at r;exact Prod.ext r.1 r.2
  have A5:=Yi V n (by rw[A3.o,A4.o];exact K);have q:=qh A5;clear K A5;rw[M]at hq;clear M;go_wp2;go_quiet(fail)
  go_wp2;go_ret;exact⟨Y1 (by simp[q.o]),Q0z.more F _⟩
 have W:B<=k:=by omega
 have X:E<=k:=by rw[<-HL.o];omega
 have HN:=qh (Jq HT W X);go_wp2;go_ret;exact⟨Y1 (by simp[A7.o,A8.o,A9.o,m.o,HN.o]),F.o⟩
def Qfp{w b o b' o' x y}(B:At Q4 w b o x)(C:At Q4 w b' o' y)(h:x=y):
  Bv prog 155 #[(b,o),(b',o')] w λe w'=>e=.returned (.bool Bn)/\∃n,w'=w.drewN n:=
 (Qbk w b o b' o' x y B C).mono λe w' ⟨E,hb⟩=>⟨by rw[E,Js h],hb⟩
def Qgl{w b o b' o' x y}(B:At Q4 w b o x)(C:At Q4 w b' o' y)(h:¬x=y):
  Bv prog 155 #[(b,o),(b',o')] w λe w'=>e=.returned (.bool Bm)/\∃n,w'=w.drewN n:=
 (Qbk w b o b' o' x y B C).mono λe w' ⟨E,hb⟩=>⟨by rw[E,Vu h],hb⟩
def Qyn.bd{n}(h:Qyn n): -9223372036854775808<=n/\n<=9223372036854775807:=h
theorem Jh{e w vs}{xs:List e.den}(h:Rd (.slice e) w vs xs):∃(p:Option Cp) (c:Nat),vs=[A p xs c]/\xs<=c/\xs<=Bu/\Rd (.slice e) w [A p xs c] xs:=by
 obtain⟨d,rfl,h⟩:=Q0i h;obtain⟨p,c,rfl,B,C,_⟩:=(Ju h).gen;grind
def At.agent{w b o}{k l v:Int}{d:List Int}{ws:List Wd}(h:At Q4 w b o (k,l,v,d,ws)):
  ∃(E:Option Cp) (B:Nat) (F:Option Cp) (C:Nat),((w,b,o,k)/\(w,b,o+1,l)/\(w,b,o+2,v)/\(w,b,o+3,A E d B)/\(w,b,o+4,A F ws C))/\
   (Qyn k/\Qyn l/\Qyn v)/\(d<=B/\d<=Bu/\Rd (.slice .int) w [A E d B] d)/\(ws<=C/\ws<=Bu/\Rd (.slice Q5) w [A F ws C] ws):=by
 obtain⟨cs,_,r,⟨_,_,rfl,⟨rfl,J⟩,_,_,rfl,⟨rfl,K⟩,_,_,rfl,⟨rfl,L⟩,_,_,rfl,G,H⟩⟩:=h;obtain⟨E,B,rfl,M,O,G⟩:=Jh G;obtain⟨F,C,rfl,w1,w2,H⟩:=Jh H;exact⟨E,B,F,C,Q5v r,⟨J,K,L⟩,⟨M,O,G⟩,⟨w1,w2,H⟩⟩
def At.net{w b o}{n:List Qb}(h:At Jl w b o n):∃(p:Option Cp) (c:Nat),(w,b,o,A p n c)/\n<=c/\n<=Bu/\Rd (.slice Q4) w [A p n c] n:=by
 obtain⟨cs,_,r,B⟩:=h;grind[Jh,Qa6]
def At.mem{w b o}{cs:List Qb}{f t a:Int}{xs:List Wd}(h:At Qq w b o (cs,f,(t,a),xs)):
  ∃(C:Option Cp) (B:Nat) (px:Option Cp) (cx:Nat),((w,b,o,A C cs B)/\(w,b,o+1,f)/\(w,b,o+2,t)/\(w,b,o+3,a)/\(w,b,o+4,A px xs cx))/\
   (Qyn f/\Qyn t/\Qyn a)/\(cs<=B/\cs<=Bu/\Rd (.slice Q4) w [A C cs B] cs)/\(xs<=cx/\xs<=Bu/\Rd (.slice Q5) w [A px xs cx] xs):=by
 obtain⟨vs,_,r,⟨_,_,rfl,E,_,_,rfl,⟨rfl,G⟩,_,_,rfl,⟨_,_,rfl,⟨rfl,H⟩,⟨rfl,J⟩⟩,F⟩⟩:=h;obtain⟨C,B,rfl,K,L,E⟩:=Jh E;obtain⟨px,cx,rfl,M,O,F⟩:=Jh F;exact⟨C,B,px,cx,Q5v r,⟨G,H,J⟩,⟨K,L,E⟩,⟨M,O,F⟩⟩
def At.worker{w b o}{H J:Int}{xs:List Wd}{B:List Qy3}{cs:List Int}(h:At Qh w b o (H,J,xs,B,cs)):
  ∃(px:Option Cp) (cx:Nat) (F:Option Cp) (C:Nat) (G:Option Cp) (E:Nat),((w,b,o,H)/\(w,b,o+1,J)/\(w,b,o+2,A px xs cx)/\(w,b,o+3,A F B C)/\(w,b,o+4,A G cs E))/\
   (Qyn H/\Qyn J)/\(xs<=cx/\xs<=Bu/\Rd (.slice Q5) w [A px xs cx] xs)/\(B<=C/\B<=Bu/\Rd (.slice Z7) w [A F B C] B)/\(cs<=E/\cs<=Bu/\Rd (.slice .int) w [A G cs E] cs):=by
 obtain⟨vs,_,r,⟨_,_,rfl,⟨rfl,O⟩,_,_,rfl,⟨rfl,P⟩,_,_,rfl,K,_,_,rfl,L,M⟩⟩:=h;obtain⟨px,cx,rfl,S,T,K⟩:=Jh K;obtain⟨F,C,rfl,U,V,L⟩:=Jh L;obtain⟨G,E,rfl,W,X,M⟩:=Jh M;exact⟨px,cx,F,C,G,E,Q5v r,⟨O,P⟩,⟨S,T,K⟩,⟨U,V,L⟩,⟨W,X,M⟩⟩
def At.pool{w b o}{m:Qyb}{ws:List Qxb}{a:Int}(h:At Qv w b o (m,ws,a)):
  At Qq w b o m/\∃(C:Option Cp) (B:Nat),((w,b,o+5,A C ws B)/\(w,b,o+6,a))/\Qyn a/\(ws<=B/\ws<=Bu/\Rd (.slice Qh) w [A C ws B] ws):=by
 obtain⟨vs,_,r,⟨v1,L,rfl,E,_,_,rfl,F,⟨rfl,H⟩⟩⟩:=h;obtain⟨C,B,rfl,w1,w2,F⟩:=Jh F;have J:v1.length=5:=E.length;obtain⟨K,G⟩:=Qy2.app r;rw[J]at G;exact⟨⟨v1,E.length,K,E⟩,C,B,Qg6 G,H,w1,w2,F⟩
def Rd.elem{e w p n c}{xs:List e.den}(h:Rd (.slice e) w [A p n c] xs)(i:Nat)(B):∃b o,p=R ⟨b,o,N⟩/\At e w b (o+i * e.sz) xs[i]:=by
 obtain⟨J,c',C,_,_,E⟩:=(Ju h).gen;obtain⟨rfl,_,_⟩:=C;obtain⟨b,o,rfl,cs,F,G,H⟩:=E i B;exact⟨b,o,rfl,cs,F,G,H⟩
theorem At.int{w b o}{n:Int}(h:At .int w b o n):(w,b,o,n)/\Qyn n:=by
 obtain⟨cs,_,r,⟨rfl,i⟩⟩:=h;exact⟨Qa6 r,i⟩
theorem At.word{w b o}{t a:Int}(h:At Q5 w b o (t,a)):(w,b,o,t)/\(w,b,o+1,a)/\Qyn t/\Qyn a:=by
 obtain⟨cs,_,r,⟨_,_,rfl,⟨rfl,i⟩,⟨rfl,j⟩⟩⟩:=h;grind[Qg6]
def At.link{w b o}{t a B a':Int}(h:At Z7 w b o ((t,a),(B,a'))):((w,b,o,t)/\(w,b,o+1,a)/\(w,b,o+2,B)/\(w,b,o+3,a'))/\Qyn t/\Qyn a/\Qyn B/\Qyn a':=by
 obtain⟨cs,_,r,⟨_,_,rfl,⟨_,_,rfl,⟨rfl,i⟩,⟨rfl,j⟩⟩,⟨_,_,rfl,⟨rfl,C⟩,⟨rfl,E⟩⟩⟩⟩:=h;exact⟨Qqr r,i,j,C,E⟩
theorem At.drew{t w b o x}(h:At t w b o x){w'}(k:Q0z w w'):At t w' b o x:=h.kb k.below
theorem Rd.drew{t w vs x}(h:Rd t w vs x){w'}(k:Q0z w w'):Rd t w' vs x:=h.kb k.below
def At.drewN{t w b o x}(h:At t w b o x)(n):At t (w.drewN n) b o x:=h.drew ⟨n,rfl⟩
def Rd.drewN{t w vs x}(h:Rd t w vs x)(n):Rd t (w.drewN n) vs x:=h.drew ⟨n,rfl⟩
theorem Qxu.of_block{t e B g w xs cur}(C:w.heap[g]?=R (.cells cur e (0,0)))(E:B<=g)(F:t.flat=Bn)(K:cur.toList=Qa9 t xs)(G:Q55 (.slice t) xs)(H:xs<=Bu):
  Qxu t e B w (A (R (g,0)) xs xs) xs:=by
 have J:=Q5a F xs;refine⟨⟨J,.inr ⟨g,xs.length,cur,rfl,E,C,Aj _,H, ?_, ?_⟩⟩,G⟩
 ·grind
 grind
theorem Qxu.block{t e B w v xs}(h:Qxu t e B w v xs):∀k,v.ownBlock=R k->B<=k/\k<w.heap.size:=by
 intro k C;rcases h.1.2 with⟨rfl,_⟩|⟨g,E,cur,rfl,F,G,_⟩
 ·simp[Da]at C
 simp[Da]at C;grind
theorem Qxu.kept{t e B w w' v xs}(h:Qxu t e B w v xs)(k:Bp w w w'):Qxu t e B w' v xs:=by
 refine⟨⟨h.1.1, ?_⟩,h.2⟩;rcases h.1.2 with⟨rfl,E⟩|⟨g,F,cur,rfl,G,C,H,J,K,L⟩
 ·exact .inl ⟨rfl,E⟩
 exact .inr ⟨g,F,cur,rfl,G,by rw[k.block g (Al.1 C).1];exact C,H,J,K,L⟩
def Qxu.form{t e B w v xs}(h:Qxu t e B w v xs):∃(p:Option Cp) (c:Nat),v=A p xs c/\xs<=c/\c<=Bu:=by
 rcases h.1.2 with⟨rfl,C⟩|⟨g,E,cur,rfl,F,G,H,J,K,L⟩
 ·grind
 grind
theorem Qxu.rd{t e B w v xs}(h:Qxu t e B w v xs)(C:t.flat=Bn):Rd (.slice t) w [v] xs:=let ⟨_,o,_⟩:=h.new C;o.rd
theorem Qxu.grew{t e B W w w' v xs}(h:Qxu t e B w v xs)(C:Bp B W w)(E:B<=w)(k:w.grownBy w' v.ownBlock):Bp B W w':=
 Below.grown C k E λi F=>(h.block i F).1
theorem Q55.nil{t}:Q55 (.slice t) ([]:List t.den):=λx B=>by simp at B
theorem Zz{α β:Type}{f:α->List β}{xs:List α}{k:Nat}(h:k<xs):(xs.take (k+1)).flatMap f=(xs.take k).flatMap f++f xs[k]:=by
 rw[An h,Dy];simp
theorem Zp{α:Type}{β}{f:α->List β}(xs:List α)(k):((xs.take k).flatMap f).length<=(xs.flatMap f):=by
 have h:(xs.take k).flatMap f++(xs.drop k).flatMap f=xs.flatMap f:=by rw[<-Dy,List.take_append_drop]
 grind
theorem Va: {t:Ty}-> {w:Bh}-> {vs:List Bk}-> {x:t.den}-> {F:List Nat}->t.flat=Bn->Ow t w vs x F->F=[]
 | .int,_,_,_,_,_,h=>h.2.2
 | .bool,_,_,_,_,_,h=>h.2
 | .pair a b,_,_,_,_,hf,⟨_,_,F1,F2,_,e,h1,h2⟩=>by simp only[Ty.flat,Bi]at hf;rw[e,Va hf.1 h1,Va hf.2 h2];rfl
def Q0u(w:Bh)(b:Nat)(T:Cd):Prop:=∃cur,w.heap[b]?=R (.cells cur T (0,0))
theorem Q0u.lt{w b T}(h:Q0u w b T):b<w:=let ⟨_,h⟩:=h;(Al.1 h).1
theorem Q0u.free{w b T}(h:Q0u w b T)(q:Nat):w.frozen? (b,q)=Bm:=by obtain⟨_,h⟩:=h;simp[World.frozen?,h]
theorem Q0u.kept{w w' b T}(h:Q0u w b T)(k:Bp w w w'):Q0u w' b T:=by
 have:=h.lt;obtain⟨c,h⟩:=h;exact⟨c,by rw[k.block b this];exact h⟩
theorem Q0u.grown{w w' b T r}(h:Q0u w b T)(k:w.grownBy w' r)(B:r≠R b):Q0u w' b T:=by
 have:=h.lt;obtain⟨c,h⟩:=h;exact⟨c,by rw[k.block b this (λe=>B e.symm)];exact h⟩
theorem Q0u.set{w b T}(h:Q0u w b T)(p v):Q0u (w.setCell p v) b T:=by
 obtain⟨c,h⟩:=h;by_cases e:p.block=b
 ·subst e
  refine⟨if p.spot.isSome then c else c.setIfInBounds p.off v, ?_⟩;simp only[World.setCell,Array.getElem?_modify,h];simp
 exact⟨c,by rw[Below.heap_setCell _ _ _ _ (λB=>e B.symm)];exact h⟩
theorem Q0u.alloc{w b T}(h:Q0u w b T)(o):Q0u (w.alloc o) b T:=by
 have:=h.lt;obtain⟨c,h⟩:=h;exact⟨c,by rw[Az _ _ _ this];exact h⟩
def Qxu.ne{t e B w v xs}(h:Qxu t e B w v xs){b T}(E:Q0u w b T)(F:T≠e):v.ownBlock≠R b:=by
 intro C;rcases h.1.2 with⟨rfl,_⟩|⟨g,G,cur,rfl,_,H,_⟩
 ·simp[Da]at C
 simp[Da]at C;subst C;obtain⟨c,J⟩:=E;grind
def Qxu.setOther{t e B w v xs}(h:Qxu t e B w v xs){a}(C:v.ownBlock≠R a.block)(u):Qxu t e B (w.setCell a u) v xs:=
 ⟨ownsRow_setCell_other h.1 C u,h.2⟩
theorem Qxu.lo{t e B C w v xs}(h:Qxu t e B w v xs)(E:C<=B):Qxu t e C w v xs:=by
 refine⟨⟨h.1.1, ?_⟩,h.2⟩;rcases h.1.2 with h'|⟨g,cap,cur,h1,h2,h3⟩
 ·exact .inl h'
 exact .inr ⟨g,cap,cur,h1,Au E h2,h3⟩
theorem Qxu.eqL{t e B w v xs ys}(h:Qxu t e B w v xs)(k:xs=ys):Qxu t e B w v ys:=k▸h
theorem Q6v{w:Bh}{w' r}(k:w.grownBy w' r){b o:Nat}(B:b<w)(C:r≠R b):w'.cell? (b,o)=w.cell? (b,o):=
 World.cell?_of_block (w:=w) (k.block b B (λe=>C e.symm))
def Q71(w:Bh){a b c T U V}:
  (((w.alloc (.cells a T)).alloc (.cells b U)).alloc (.cells c V)).heap[w.heap.size]?=R (.cells a T (0,0))/\(((w.alloc (.cells a T)).alloc (.cells b U)).alloc (.cells c V)).heap[w.heap.size+1]?=R (.cells b U (0,0))/\
  (((w.alloc (.cells a T)).alloc (.cells b U)).alloc (.cells c V)).heap[w.heap.size+1+1]?=R (.cells c V (0,0)):=by
 refine⟨?_, ?_, ?_⟩
 ·rw[Az _ _ _ (by simp;omega),Az _ _ _ (by simp)];exact Bg w _
 ·rw[Az _ _ _ (by simp)]
  have:=Bg (w.alloc (.cells a T)) (.cells b U);simpa using this
 have:=Bg ((w.alloc (.cells a T)).alloc (.cells b U)) (.cells c V);simpa using this
def Q29{t x}(h:Q55 t x):Q55 (.slice t) ([x]:List t.den):=λy B=>by
 have:y=x:=Bb.1 B;rw[this];exact h
def Q4z{a b}(B:Qyn a)(C:Qyn b):Q55 Q5 ((a,b):Int×Int):=⟨B,C⟩
def Qqp:Q55 (.slice Q5) ([((0:Int),(0:Int))]:List (Int×Int)):=Q29 (t:=Q5) (Q4z (a:=0) (b:=0) (by unfold Qyn;omega) (by unfold Qyn;omega))
theorem Q6{w:Bh}{b o:Nat}{cur T fr v}(h:w.heap[b]?=R (.cells cur T fr))(k:cur[o]?=R v):w.cell? (b,o)=R v:=by
 simp[World.cell?,h,k]
def Qm8{w w1 w2:Bh}{b o:Nat}{T:Cd}{v:Bk}(C:Q0u w1 b T)(k:w1.cell? (b,o)=w2.cell? (b,o))(h:w.cell? (b,o)=R v)(B:∀u,w2.cell? (b,o)=w.cell? (b,o)\/u=v:=by intro u;left;rw[World.cell?_alloc_lt _ _ _ (by assumption)]):w1.cell? (b,o)=R v:=by
 rcases B (.bool Bm)with e|e
 ·rw[k,e];exact h
 rcases B (.bool Bn)with e'|e'
 ·rw[k,e'];exact h
 grind
def Q2s(w:Bh)(b:Nat)(T:Cd):Prop:=w.heap[b]?=R (.cells #[(),(),(),jN,jN] T)
def Q2s.blk{w b T}(h:Q2s w b T):Q0u w b T:=⟨_,h⟩
theorem Q2s.grown{w w' b T r}(h:Q2s w b T)(k:w.grownBy w' r)(B:r≠R b):Q2s w' b T:=by
 unfold Q2s at *
 rw[k.block b (Al.1 h).1 (λe=>B e.symm)];exact h
theorem Q2s.alloc{w b T}(h:Q2s w b T)(o):Q2s (w.alloc o) b T:=by
 unfold Q2s at *
 rw[Az _ _ _ (Al.1 h).1];exact h
theorem Q2s.set{w b T}(h:Q2s w b T){p}(B:p.block≠b)(v):Q2s (w.setCell p v) b T:=by
 unfold Q2s at *
 rw[Below.heap_setCell _ _ _ _ (λC=>B C.symm)];exact h
theorem Q2s.cells{w b T}(h:Q2s w b T):(w,b,0,I Z 0)/\(w,b,1,I Z 0)/\(w,b,2,I Z 0)/\(w,b,3,A N 0 0)/\(w,b,4,A N 0 0):=
 ⟨Q6 h rfl,Q6 h rfl,Q6 h rfl,Q6 h rfl,Q6 h rfl⟩
def Qx3{w b T}(h:Q2s w b T)(B v1 C E F):
  (Yu w b 0 [B,v1,C,E,F]).cell? (b,0)=R B/\(Yu w b 0 [B,v1,C,E,F]).cell? (b,1)=R v1/\(Yu w b 0 [B,v1,C,E,F]).cell? (b,2)=R C/\
  (Yu w b 0 [B,v1,C,E,F]).cell? (b,3)=R E/\(Yu w b 0 [B,v1,C,E,F]).cell? (b,4)=R F:=by
 have:=Jn [B,v1,C,E,F] 0 w _ h;exact⟨Q6 this rfl,Q6 this rfl,Q6 this rfl,Q6 this rfl,Q6 this rfl⟩
theorem Qsq{n}:(Ch (n+1) ((0:Int),(0:Int)))=Ch n (0,0)++ [(0,0)]:=by rw[List.replicate_succ']
def Qxu.keptG{t e B w w' v xs r}(h:Qxu t e B w v xs)(k:w.grownBy w' r)(E:∀i,v.ownBlock=R i->r≠R i):Qxu t e B w' v xs:=by
 refine⟨⟨h.1.1, ?_⟩,h.2⟩;rcases h.1.2 with⟨rfl,F⟩|⟨g,G,cur,rfl,H,C,J,K,L,M⟩
 ·exact .inl ⟨rfl,F⟩
 exact .inr ⟨g,G,cur,rfl,H,by rw[k.block g (Al.1 C).1 (λe=>E g rfl e.symm)];exact C,J,K,L,M⟩
theorem Qxu.frame{t e B w w' v xs X}(h:Qxu t e B w v xs)(k:Q1 X w w')(hX:∀i,v.ownBlock=R i->¬X i):Qxu t e B w' v xs:=by
 refine⟨⟨h.1.1, ?_⟩,h.2⟩;rcases h.1.2 with⟨rfl,E⟩|⟨g,F,cur,rfl,G,C,H,J,K,L⟩
 ·exact .inl ⟨rfl,E⟩
 exact .inr ⟨g,F,cur,rfl,G,by rw[k.block g (Al.1 C).1 (hX g rfl)];exact C,H,J,K,L⟩
theorem Qxu.ow{t e B w v xs}(h:Qxu t e B w v xs)(L:t.flat=Bn):∃F,Ow (.slice t) w [v] xs F/\F.Nodup/\∀b∈F,B<=b/\Q0u w b e:=by
 have H:=h.new L;obtain⟨F,J,M,O⟩:=H;refine⟨F,J,M,λb C=>⟨(O b C).1, ?_⟩⟩;obtain⟨P,S,K⟩:=J;obtain rfl:v=P:=by simpa using S
 rcases h.1.2 with⟨rfl,H⟩|⟨g,U,cur,rfl,X,V,Y,a,c,d⟩
 ·rcases K with⟨_,E,_⟩|⟨b',o,U,cur,T,W,G,_⟩
  ·rw[E]at C;simp at C
  simp at G
 rcases K with⟨_,E,_⟩|⟨b',o,f,i,T,W,G,j,_,_,_,E,k,l⟩
 ·rw[E]at C;simp at C
 obtain⟨⟨rfl,_,_⟩,_,_⟩:=G;rw[E]at C;rcases Aq.1 C with rfl|C
 ·exact⟨cur,V⟩
 grind[List.mem_flatten,List.mem_iff_getElem,Va]
def Q0u.one{w b S T}(h:Q0u w b S)(k:Q0u w b T):S=T:=by
 obtain⟨_,h⟩:=h;obtain⟨_,k⟩:=k;grind
def Qwf{w:Bh}{W}(C:Bp w w W){B v1}(E:w.cell? B=R v1):W.cell? B=R v1:=jC C E
def Qum{w:Bh}{W}(B:Bp w w W){C v1 E F}(G:w.cell? C=R v1)(H:w.cell? E=R F):W.cell? C=R v1/\W.cell? E=R F:=⟨jC B G,jC B H⟩
def Qc5{w:Bh}{W}(B:Bp w w W){C v1 E F G H}(J:w.cell? C=R v1)(K:w.cell? E=R F)(L:w.cell? G=R H):W.cell? C=R v1/\W.cell? E=R F/\W.cell? G=R H:=⟨jC B J,jC B K,jC B L⟩
def Q8a{w:Bh}{W}(B:Bp w w W){C v1 E F G H J K}(L:w.cell? C=R v1)(M:w.cell? E=R F)(O:w.cell? G=R H)(P:w.cell? J=R K):W.cell? C=R v1/\W.cell? E=R F/\W.cell? G=R H/\W.cell? J=R K:=⟨jC B L,jC B M,jC B O,jC B P⟩
def Qde{w:Bh}{W}(B:Bp w w W){C v1 E F G H J K L M}(O:w.cell? C=R v1)(P:w.cell? E=R F)(S:w.cell? G=R H)(T:w.cell? J=R K)(U:w.cell? L=R M):W.cell? C=R v1/\W.cell? E=R F/\W.cell? G=R H/\W.cell? J=R K/\W.cell? L=R M:=⟨jC B O,jC B P,jC B S,jC B T,jC B U⟩
def Qvu{w:Bh}{W}(B:Bp w w W){C v1 E F G H J K L M O P}(S:w.cell? C=R v1)(T:w.cell? E=R F)(U:w.cell? G=R H)(V:w.cell? J=R K)(X:w.cell? L=R M)(Y:w.cell? O=R P):W.cell? C=R v1/\W.cell? E=R F/\W.cell? G=R H/\W.cell? J=R K/\W.cell? L=R M/\W.cell? O=R P:=⟨jC B S,jC B T,jC B U,jC B V,jC B X,jC B Y⟩
def Qv5{w:Bh}{W}(B:Bp w w W){C v1 E F G H J K L M O P S T}(U:w.cell? C=R v1)(V:w.cell? E=R F)(X:w.cell? G=R H)(Y:w.cell? J=R K)(a:w.cell? L=R M)(b:w.cell? O=R P)(c:w.cell? S=R T):W.cell? C=R v1/\W.cell? E=R F/\W.cell? G=R H/\W.cell? J=R K/\W.cell? L=R M/\W.cell? O=R P/\W.cell? S=R T:=⟨jC B U,jC B V,jC B X,jC B Y,jC B a,jC B b,jC B c⟩
def J7{P}(w){G o a K Q E}(H:o.guard=N)(s x C)(J:o.op=Op.call {callee:=Fp Ft,args:=#[s,x],argTypes:=#[C,C]}){t}(hf:t.flat=Bn)(hs0:0<t.sz)(B e i z bytes)(ht:P.underlying C=R (.slice e))(hi:P.info? e=R i)(hz:i.zero=R z)(hsize:i.size=t.sz)(hby:i.bytes=bytes)(hzs:z.cells.size=t.sz)(hb:bytes<=100){v u xs}{ys:List t.den}(hv:a.eval s=v)(hu:a.eval x=u)(hown:Qxu t e B w v xs)(hrd:Rd (.slice t) w [u] ys)(hlen:xs.length+ys.length<=1000000000)(hB:B<=w)(hK:∀F w',Qxu t e B w' F (xs++ys)->w.grownBy w' v.ownBlock->K (a.put o.dst F) w'):if Eg o (yielded G a.tmps)=Bn then Hc P o a w K Q else E:=by
 have L:Eg o (yielded G a.tmps)=Bn:=by simp[Eg,H]
 rw[if_pos L];obtain⟨F,w',M,O,S⟩:=Q4f (P:=P) w hf hs0 B C o.type e i z bytes ht hi hz hsize hby hzs hb hown hrd hlen hB;unfold Hc;simp[execOp,J,resolve,invoke,builtin,hv,hu,M,Fe];exact hK F w' O S
def Q73{P}(w){e}(H S K i z L)(W:P.underlying H=R (.slice K))(M:P.info? K=R i)(X:i.zero=R z)(Y:i.size=e.sz)(a:i.bytes=L)(d:z.cells.size=e.sz)(f:L<=200){B E v}{xs:List e.den}{y vs}(g c)(h:Qy7 (.slice e) B E [v] xs)(hB:B<=E)(T:Bp E E w)(k:Qy7 e E w vs y)(l:Qy2 w g 0 vs)(m:∀u∈vs,u.oneCell'=Bn)(n:xs.length+1<=1000000000):
  ∃(p:Option Cp) (J:Nat) (w':Bh),(Fb #[H,H] S #[v,A (R (g,0)) 1 c]).run P w=.ok (A p (xs+1) J) w'/\Qy7 (.slice e) B w' [A p (xs+1) J] (xs++ [y])/\Q1 (λc=>B<=c/\c<E) w w':=by
 obtain⟨F,o,q,O⟩:=h;obtain⟨G,U,r,s⟩:=k;have t:=U.length
 obtain⟨p,J,w',x,h2,V,h4,h5,h6⟩:=Q5b (P:=P) w (e:=e) H S K i z L W M X Y a d f (xs:=xs) (ys:=[y]) (Gs:=[G]) (o.kept λb C=>T.block b (O b C).2) q (g,0) 1 c rfl vs (by rw[t];simp)
  (λj u hj=>by
   obtain⟨A0,he⟩:=Ei.1 hj;have:=l j A0;have A1:(⟨g,0,N⟩:Cp).add j=⟨g,0+j,N⟩:=by unfold Addr.add;split<;>simp_all
   rw[A1,this,he]) m rfl
  (λi M=>by
   obtain rfl:i=0:=by simpa using M
   have:(vs.drop (0 * e.sz)).take e.sz=vs:=by rw[Dm,List.drop_zero,Ao (by omega)]
   rw[this];exact U) (by simpa using r)
  (λb C A2=>by simp only[Hw,List.flatten_nil,Cl]at C;have:=(O b A2).2;have:=(s b C).1;omega) (by omega) n
 refine⟨p,J,w',h2,⟨x,V,h4,λb C=>⟨?_,V.lt b C⟩⟩,h6.mono λb C=>O b C⟩;have A3:=T.size;grind
def Qcp{P}(w){G o a K Q E}(H:o.guard=N)(s x C)(J:o.op=Op.call {callee:=Fp Ft,args:=#[s,x],argTypes:=#[C,C]}){e}(eT i z bytes)(ht:P.underlying C=R (.slice eT))(hi:P.info? eT=R i)(hz:i.zero=R z)(hsize:i.size=e.sz)(hby:i.bytes=bytes)(hzs:z.cells.size=e.sz)(hb:bytes<=200){B}(w0){v}{xs:List e.den}{y vs}(g c)(hv:a.eval s=v)(hu:a.eval x=A (R (g,0)) 1 c)(hnew:Qy7 (.slice e) B w0 [v] xs)(hB:B<=w0)(hbel:Bp w0 w0 w)(hvs:Qy7 e w0 w vs y)(hcells:Qy2 w g 0 vs)(h1:∀u∈vs,u.oneCell'=Bn)(hlen:xs.length+1<=1000000000)(hK:∀p F w',Qy7 (.slice e) B w' [A p (xs+1) F] (xs++ [y])->Q1 (λc=>B<=c/\c<w0) w w'->K (a.put o.dst (A p (xs+1) F)) w'):if Eg o (yielded G a.tmps)=Bn then Hc P o a w K Q else E:=by
 have L:Eg o (yielded G a.tmps)=Bn:=by simp[Eg,H]
 rw[if_pos L];obtain⟨p,F,w',M,O,S⟩:=Q73 (P:=P) w C o.type eT i z bytes ht hi hz hsize hby hzs hb g c hnew hB hbel hvs hcells h1 hlen;unfold Hc;simp[execOp,J,resolve,invoke,builtin,hv,hu,M,Fe];exact hK p F w' O S
def Q53{P}(w){F rest o a Q}(G:o.guard=N)(s x C)(H:o.op=Op.call {callee:=Fp Ft,args:=#[s,x],argTypes:=#[C,C]}){e}(eT i z bytes)(ht:P.underlying C=R (.slice eT))(hi:P.info? eT=R i)(hz:i.zero=R z)(hsize:i.size=e.sz)(hby:i.bytes=bytes)(hzs:z.cells.size=e.sz)(hb:bytes<=200){B}(w0){v}{xs:List e.den}{y vs}(g c)(hv:a.eval s=v)(hu:a.eval x=A (R (g,0)) 1 c)(hnew:Qy7 (.slice e) B w0 [v] xs)(hB:B<=w0)(hbel:Bp w0 w0 w)(hvs:Qy7 e w0 w vs y)(hcells:Qy2 w g 0 vs)(h1:∀u∈vs,u.oneCell'=Bn)(hlen:xs.length+1<=1000000000)(hK:∀p E w',Qy7 (.slice e) B w' [A p (xs+1) E] (xs++ [y])->Q1 (λc=>B<=c/\c<w0) w w'->wpList P F Q rest (a.put o.dst (A p (xs+1) E)) w'):wpList P F Q (o::rest) a w:=by
 refine wpList_plain G λK J=> ?_;obtain⟨p,E,w',L,M,O⟩:=Q73 (P:=P) w C o.type eT i z bytes ht hi hz hsize hby hzs hb g c hnew hB hbel hvs hcells h1 hlen;unfold Hc;simp[execOp,H,resolve,invoke,builtin,hv,hu,L,Fe];exact J _ _ (hK p E w' M O)
theorem Qy7.nil{e}(B w):Qy7 (.slice e) B w [jN] []:=⟨[],Ow.nil w,by simp,by simp⟩
section
variable {e:Cd} {B:Nat} {w:Bh} {xs:List Int}
def OwnI.head{v}(h:Qxu .int e B w v xs)(J:0<xs.length):∃g c,v=A (R ⟨g,0,N⟩) xs c/\xs<=c/\c<=Bu/\Q0u w g e/\B<=g:=by
 rcases h.1.2 with⟨rfl,K⟩|⟨g,C,cur,rfl,E,F,G,H,L,M⟩
 ·omega
 exact⟨g,C,rfl,G,H,⟨cur,F⟩,E⟩
theorem Q70(xs:List Int):Qa9 .int xs=xs.map λn=>I Z n:=by
 unfold Qa9;induction xs with
 |nil=>rfl
 |cons x r ih=>rw[List.flatMap_cons,ih,List.map_cons];rfl
theorem OwnI.get{g:Nat}{n c}(h:Qxu .int e B w (A (R (g,0)) n c) xs)(i:Nat)(C):(w,g,i,I Z xs[i])/\Qyn xs[i]:=by
 refine⟨?_,h.2 _ (As C)⟩;rcases h.1.2 with⟨E,_⟩|⟨K,L,cur,F,M,G,O,P,S,H⟩
 ·simp at E
 obtain⟨⟨rfl,_,_⟩,_,_⟩:=F;refine Q6 G ?_;have J:=congrArg (λl=>l[i]?) H;simp only[Q70,List.getElem?_map,List.getElem?_eq_getElem C,Option.map_some,Ty.sz,Cc]at J;grind
theorem OwnI.set{g:Nat}{n c}(h:Qxu .int e B w (A (R (g,0)) n c) xs)(i:Nat)(P:i<xs)(v)(F:Qyn v):
  Qxu .int e B (w.setCell (g,i) v) (A (R (g,0)) n c) (xs.set i v):=by
 refine⟨⟨by rw[Q5a rfl,Bl], ?_⟩,λx G=> ?_⟩
 ·rcases h.1.2 with⟨C,_⟩|⟨S,T,cur,H,J,K,L,M,O,E⟩
  ·simp at C
  obtain⟨⟨rfl,_,_⟩,rfl,rfl⟩:=H;refine .inr ⟨g,c,cur.setIfInBounds i v,by rw[Bl],J,Z1 K,by rw[Bl];exact L,M,by simpa using O, ?_⟩;rw[Bl];simp only[Array.toList_setIfInBounds,Q70,List.map_set];rw[Q70]at E;simp only[Ty.sz,Cc]at E⊢;rw[List.take_set,E]
 rcases List.mem_or_eq_of_mem_set G with C|C
 ·exact h.2 x C
 rw[C];exact F
end
def Qyg(ws rs:List Wd)(n:Nat):List Int:=(List.range n).map λi=>((Jk ws rs i:Nat):Int)
theorem Y7(ws rs n):(Qyg ws rs n)=n:=by simp[Qyg]
theorem Q2y{ws rs n i}(h:i<n)(B):(Qyg ws rs n)[i]'B=((Jk ws rs i:Nat):Int):=by simp[Qyg]
theorem Qra{n}:Qyg [] [] n=Ch n 0:=by
 apply Hh
 ·simp[Qyg]
 grind[Qyg,Jk]
def Qkh{ws n w}(C:0<=w.2)(E:w.2.toNat<n):Qyg (ws++ [w]) [] n=(Qyg ws [] n).set w.2.toNat (((Jk ws [] w.2.toNat:Nat):Int)+1):=by
 apply Hh
 ·rw[Bl,Y7,Y7]
 intro i B F;rw[Y7]at B;rw[Q2y B,List.getElem_set,Q2y B];simp only[Jk,Ec,Dd,List.countP_nil,Cg,Cw];grind
def Qhg{ws rs n p}(C:0<=p.1)(E:p.1<p.2)(F:p.2.toNat<n):
  Qyg ws (rs++ [p]) n=((Qyg ws rs n).set p.1.toNat (((Jk ws rs p.1.toNat:Nat):Int)+1)).set p.2.toNat (((Jk ws rs p.2.toNat:Nat):Int)+1):=by
 apply Hh
 ·simp only[Bl,Y7]
 intro i B G;rw[Y7]at B;rw[Q2y B,List.getElem_set,List.getElem_set,Q2y B];simp only[Jk,Ec,Dd,List.countP_nil,Cg];grind
def Q3w(ws rs i):Jk ws rs i<=ws+2 * rs.length:=by
 unfold Jk;grind
def Qa2{P}(w){e}(B L H i z J)(O:P.underlying B=R (.slice H))(K:P.info? H=R i)(S:i.zero=R z)(T:i.size=e.sz)(U:i.bytes=J)(V:z.cells.size=e.sz)(W:J<=200){v}{xs:List e.den}{y vs F G}(g c)(X:Ow (.slice e) w [v] xs F)(Y:F.Nodup)(M:Ow e w vs y G)(a:G.Nodup)(d:∀b∈G,b∉F)(f:Qy2 w g 0 vs)(h:∀u∈vs,u.oneCell'=Bn)(k:xs.length+1<=1000000000):
  ∃(p:Option Cp) (C:Nat) (w':Bh) (E:List Nat),(Fb #[B,B] L #[v,A (R (g,0)) 1 c]).run P w=.ok (A p (xs+1) C) w'/\Ow (.slice e) w' [A p (xs+1) C] (xs++ [y]) E/\E.Nodup/\(∀b∈E,b∈F\/b∈G\/b=w.heap.size)/\Q1 (λb=>b∈F/\v.ownBlock=R b) w w'/\((A p (xs+1) C).ownBlock=v.ownBlock\/p=R ⟨w,0,N⟩):=by
 have l:=M.length
 obtain⟨p,C,w',E,r,s,t,x,h6,h7⟩:=Q79 (P:=P) w (e:=e) B L H i z J O K S T U V W (xs:=xs) (ys:=[y]) (Gs:=[G]) X Y (g,0) 1 c rfl vs (by rw[l];simp)
  (λj u m=>by
   obtain⟨n,o⟩:=Ei.1 m;have:=f j n;have q:(⟨g,0,N⟩:Cp).add j=⟨g,0+j,N⟩:=by unfold Addr.add;split<;>simp_all
   rw[q,this,o]) h rfl
  (λi K=>by
   obtain rfl:i=0:=by simpa using K
   have:(vs.drop (0 * e.sz)).take e.sz=vs:=by rw[Dm,List.drop_zero,Ao (by omega)]
   rw[this];exact M) (by simpa using a) (by simpa using d) (by omega) k
 grind
structure Qya (P:Program) (tS eT:Cd) (e:Ty):Prop where
 ht:P.underlying tS=R (.slice eT)
 hi:∃i z,P.info? eT=R i/\i.zero=R z/\i.size=e.sz/\z.cells.size=e.sz/\i.bytes<=200
def Qya.mk'{P:Program}{C B:Cd}{e:Ty}(E:P.underlying C=R (.slice B))(h:((P.info? B).map λi=>i.size==e.sz && decide (i.bytes<=200) && (match i.zero with|some z=>z.cells.size==e.sz|none=>Bm))=R Bn):Qya P C B e:=by
 refine⟨E, ?_⟩;cases hi:P.info? B with
 |none=>rw[hi]at h;cases h
 |some i=>grind
def Q38{P}(w){J o a K Q E H L e}(T:Qya P H L e)(s x)(M:o.guard=N)(O:o.op=Op.call {callee:=Fp Ft,args:=#[s,x],argTypes:=#[H,H]}){v}{xs:List e.den}{y vs F G}(g c)(hv:a.eval s=v)(hu:a.eval x=A (R (g,0)) 1 c)(hown:Ow (.slice e) w [v] xs F)(hF:F.Nodup)(hvs:Ow e w vs y G)(hG:G.Nodup)(hdis:∀b∈G,b∉F)(hcells:Qy2 w g 0 vs)(h1:∀u∈vs,u.oneCell'=Bn)(hlen:xs.length+1<=1000000000)(hK:∀p B w' C,Ow (.slice e) w' [A p (xs+1) B] (xs++ [y]) C->C.Nodup->(∀b∈C,b∈F\/b∈G\/b=w.heap.size)->Q1 (λb=>b∈F/\v.ownBlock=R b) w w'->((A p (xs+1) B).ownBlock=v.ownBlock\/p=R ⟨w,0,N⟩)->K (a.put o.dst (A p (xs+1) B)) w'):if Eg o (yielded J a.tmps)=Bn then Hc P o a w K Q else E:=by
 have S:Eg o (yielded J a.tmps)=Bn:=by simp[Eg,M]
 rw[if_pos S];obtain⟨i,z,U,V,W,X,Y⟩:=T.hi;obtain⟨p,B,w',C,d,f,h,j,k,l⟩:=Qa2 (P:=P) w H o.type L i z _ T.ht U V W rfl X Y g c hown hF hvs hG hdis hcells h1 hlen;unfold Hc;simp[execOp,O,resolve,invoke,builtin,hv,hu,d,Fe];exact hK p B w' C f h j k l
def Qd3{P}(w){H rest o a Q E J e}(T:Qya P E J e)(s x)(L:o.guard=N)(M:o.op=Op.call {callee:=Fp Ft,args:=#[s,x],argTypes:=#[E,E]}){v}{xs:List e.den}{y vs F G}(g c)(hv:a.eval s=v)(hu:a.eval x=A (R (g,0)) 1 c)(hown:Ow (.slice e) w [v] xs F)(hF:F.Nodup)(hvs:Ow e w vs y G)(hG:G.Nodup)(hdis:∀b∈G,b∉F)(hcells:Qy2 w g 0 vs)(h1:∀u∈vs,u.oneCell'=Bn)(hlen:xs.length+1<=1000000000)(hK:∀p B w' C,Ow (.slice e) w' [A p (xs+1) B] (xs++ [y]) C->C.Nodup->(∀b∈C,b∈F\/b∈G\/b=w.heap.size)->Q1 (λb=>b∈F/\v.ownBlock=R b) w w'->((A p (xs+1) B).ownBlock=v.ownBlock\/p=R ⟨w,0,N⟩)->wpList P H Q rest (a.put o.dst (A p (xs+1) B)) w'):wpList P H Q (o::rest) a w:=by
 refine wpList_plain L λK O=> ?_;obtain⟨i,z,S,U,V,W,X⟩:=T.hi;obtain⟨p,B,w',C,Y,d,f,h,j,k⟩:=Qa2 (P:=P) w E o.type J i z _ T.ht S U V rfl W X g c hown hF hvs hG hdis hcells h1 hlen;unfold Hc;simp[execOp,M,resolve,invoke,builtin,hv,hu,Y,Fe];exact O _ _ (hK p B w' C d f h j k)
def Qyj.snoc{B b o b' o' t e w w2 G H}{Gy:List Nat}{E}{xs:List e.den}{y:e.den}{M:List e.den->t.den}{v:Bk}{K n}(f:Qyj B b o t w G b' o' (.slice e) xs H M)(O:Q1 (λc=>c∈H/\v.ownBlock=R c) w w2)(P:Ow (.slice e) w2 [K] (xs++ [y]) E)(S:E.Nodup)(F:∀c∈E,c∈H\/c∈Gy\/c=n)(L:∀c,c∈Gy\/c=n->c∉b::G/\B<=c):
  ∃J,Q1b B b o t (w2.setCell (b',o') K) (M (xs++ [y])) J/\(∀c∈J,c∈G\/c∈Gy\/c=n)/\Q1 (λc=>c=b'\/v.ownBlock=R c) w (w2.setCell (b',o') K):=by
 have T:b'∉E:=λh=>(F _ h).elim f.hold.young.2.2.1 λh=>(L _ h).1 f.subb;obtain⟨p,c⟩:=f.hold.turn (O.mono λc h=>h.1) P T S λc C=>(F c C).elim (f.hold.young.2.1 c) λh=>(L c h).2;obtain⟨J,q1,U,-⟩:=f.back _ _ E (λc=>c∈Gy\/c=n) (λc C=>(L c C).1) c p λc C=>F c C;exact⟨J,q1,λc C=>(U c C).elim (λh=>(F c h).imp (λh=>f.sub c h) λh=>h) λh=> .inl h.1,(O.mono λc h=> .inr h.2).setCell (.inl rfl) _⟩
def Qyj.setI{B b o b' o' t w G H}{n:Int}{E:Int->t.den}(f:Qyj B b o t w G b' o' .int n H E){m}(F:Qyn m):
  ∃C,Q1b B b o t (w.setCell (b',o') m) (E m) C/\(∀c∈C,c∈G)/\Q1 (λc=>c=b') w (w.setCell (b',o') m):=by
 obtain⟨p,c⟩:=f.hold.putI F;obtain⟨C,q1,K,-⟩:=f.back _ _ [] (λ_=>False) (λ_ h=>h.elim) c p λc J=>by cases J
 grind[Q1.setCell,Q1.refl]
def Qyj.at1{B b o a c d w x G}(h:Q1b B b o (.pair a (.pair c d)) w x G):
  ∃H,Qyj B b o (.pair a (.pair c d)) w G b (o+a.sz) c x.2.1 H λy=>(x.1,(y,x.2.2)):=let ⟨_,f⟩:=Qyj.snd h;let ⟨K,g⟩:=Qyj.fst f.hold;⟨K,f.comp g⟩
def Qyj.at2{B b o a c d e w x G}(h:Q1b B b o (.pair a (.pair c (.pair d e))) w x G):
  ∃H,Qyj B b o (.pair a (.pair c (.pair d e))) w G b (o+a.sz+c.sz) d x.2.2.1 H λy=>(x.1,(x.2.1,(y,x.2.2.2))):=let ⟨_,f⟩:=Qyj.snd h;let ⟨K,g⟩:=Qyj.at1 f.hold;⟨K,f.comp g⟩
def Qyj.at3{B b o a c d e k w x G}(h:Q1b B b o (.pair a (.pair c (.pair d (.pair e k)))) w x G):
  ∃H,Qyj B b o (.pair a (.pair c (.pair d (.pair e k)))) w G b (o+a.sz+c.sz+d.sz) e x.2.2.2.1 H λy=>(x.1,(x.2.1,(x.2.2.1,(y,x.2.2.2.2)))):=let ⟨_,f⟩:=Qyj.snd h;let ⟨K,g⟩:=Qyj.at2 f.hold;⟨K,f.comp g⟩
def Qyj.at4{B b o a c d e k l w x G}(h:Q1b B b o (.pair a (.pair c (.pair d (.pair e (.pair k l))))) w x G):
  ∃H,Qyj B b o (.pair a (.pair c (.pair d (.pair e (.pair k l))))) w G b (o+a.sz+c.sz+d.sz+e.sz) k x.2.2.2.2.1 H λy=>(x.1,(x.2.1,(x.2.2.1,(x.2.2.2.1,(y,x.2.2.2.2.2))))):=let ⟨_,f⟩:=Qyj.snd h;let ⟨K,g⟩:=Qyj.at3 f.hold;⟨K,f.comp g⟩
def Qyj.last1{B b o a c d w x G}(h:Q1b B b o (.pair a (.pair c d)) w x G):
  ∃H,Qyj B b o (.pair a (.pair c d)) w G b (o+a.sz+c.sz) d x.2.2 H λy=>(x.1,(x.2.1,y)):=let ⟨_,f⟩:=Qyj.snd h;let ⟨K,g⟩:=Qyj.snd f.hold;⟨K,f.comp g⟩
def Qyj.last4{B b o a c d e k l w x G}(h:Q1b B b o (.pair a (.pair c (.pair d (.pair e (.pair k l))))) w x G):
  ∃H,Qyj B b o (.pair a (.pair c (.pair d (.pair e (.pair k l))))) w G b (o+a.sz+c.sz+d.sz+e.sz+k.sz) l x.2.2.2.2.2 H λy=>(x.1,(x.2.1,(x.2.2.1,(x.2.2.2.1,(x.2.2.2.2.1,y))))):=
 let ⟨_,f⟩:=Qyj.snd h;let ⟨_,f1⟩:=Qyj.snd f.hold;let ⟨_,f2⟩:=Qyj.snd f1.hold;let ⟨K,g⟩:=Qyj.last1 f2.hold;⟨K,f.comp (f1.comp (f2.comp g))⟩
def Q91(t:Ty)(P:Nat->Prop)(w:Bh)(vs:List Bk)(x:t.den):Prop:=∃F,Ow t w vs x F/\F.Nodup/\∀b∈F,P b/\b<w.heap.size
theorem Q91.new{t P B w vs x}(h:Q91 t P w vs x)(k:∀b,P b->B<=b):Qy7 t B w vs x:=
 let ⟨F,o,n,r⟩:=h;⟨F,o,n,λb C=>⟨k b (r b C).1,(r b C).2⟩⟩
theorem Q91.frame{t P w w' vs x X}(h:Q91 t P w vs x)(k:Q1 X w w')(hX:∀i,X i->¬P i):Q91 t P w' vs x:=
 let ⟨F,o,n,r⟩:=h;⟨F,o.frame k λb B=>⟨(r b B).2,λe=>hX b e (r b B).1⟩,n,λb B=>⟨(r b B).1,Ap (r b B).2 k.size⟩⟩
theorem Q91.room{e P w g B cur T}(h:w.heap[g]?=R (.cells cur T (0,0)))(H:B * e.sz<=cur.size)(C:B<=Bu)(E:P g):Q91 (.slice e) P w [A (R (g,0)) 0 B] []:=
 ⟨[g],⟨_,rfl,.inr ⟨g,0,B,cur,T,[],rfl,Ak _,C,h,by omega,rfl,rfl,λi F=>by simp at F⟩⟩,by simp,λb G=>by
  obtain rfl:b=g:=by simpa using G
  exact⟨E,(Al.1 h).1⟩⟩
theorem Q63{P}(w){e}(E S K i z L)(W:P.underlying E=R (.slice K))(M:P.info? K=R i)(X:i.zero=R z)(Y:i.size=e.sz)(a:i.bytes=L)(d:z.cells.size=e.sz)(f:L<=200){H C v}{xs:List e.den}{y vs}(g c)(h:Q91 (.slice e) H C [v] xs)(hR:∀b,C.heap.size<=b->H b)(T:Bp C.heap.size C w)(k:Qy7 e C.heap.size w vs y)(l:Qy2 w g 0 vs)(m:∀u∈vs,u.oneCell'=Bn)(n:xs.length+1<=1000000000):
  ∃(p:Option Cp) (J:Nat) (w':Bh),(Fb #[E,E] S #[v,A (R ⟨g,0,N⟩) 1 c]).run P w=.ok (A p (xs.length+1) J) w'/\Q91 (.slice e) H w' [A p (xs.length+1) J] (xs++ [y])/\Q1 (λc=>H c/\c<C.heap.size) w w':=by
 obtain⟨F,o,q,O⟩:=h;obtain⟨G,U,r,s⟩:=k;have t:=U.length
 obtain⟨p,J,w',x,h2,V,h4,h5,h6⟩:=Q5b (P:=P) w (e:=e) E S K i z L W M X Y a d f (xs:=xs) (ys:=[y]) (Gs:=[G]) (o.kept λb B=>T.block b (O b B).2) q ⟨g,0,N⟩ 1 c rfl vs (by rw[t];simp)
  (λj u hj=>by
   obtain⟨A0,he⟩:=Ei.1 hj;have:=l j A0;have A1:(⟨g,0,N⟩:Cp).add j=⟨g,0+j,N⟩:=by unfold Addr.add;split<;>simp_all
   rw[A1,this,he]) m rfl
  (λi M=>by
   obtain rfl:i=0:=by simpa using M
   have:(vs.drop (0 * e.sz)).take e.sz=vs:=by rw[Dm,List.drop_zero,Ao (by omega)]
   rw[this];exact U) (by simpa using r)
  (λb B A2=>by simp only[Hw,List.flatten_nil,Cl]at B;have:=(O b A2).2;have:=(s b B).1;omega) (by omega) n
 refine⟨p,J,w',h2,⟨x,V,h4,λb B=>⟨?_,V.lt b B⟩⟩,h6.mono λb B=>O b B⟩;have A3:=T.size;grind
theorem Qap{P}(w){G o a K Q E}(H:o.guard=N)(s x B)(J:o.op=Op.call {callee:=Fp Ft,args:=#[s,x],argTypes:=#[B,B]}){e}(eT i z bytes)(ht:P.underlying B=R (.slice eT))(hi:P.info? eT=R i)(hz:i.zero=R z)(hsize:i.size=e.sz)(hby:i.bytes=bytes)(hzs:z.cells.size=e.sz)(hb:bytes<=200){C}(w0){v}{xs:List e.den}{y vs}(g c)(hv:a.eval s=v)(hu:a.eval x=A (R ⟨g,0,N⟩) 1 c)(hnew:Q91 (.slice e) C w0 [v] xs)(hR:∀b,w0.heap.size<=b->C b)(hbel:Bp w0.heap.size w0 w)(hvs:Qy7 e w0.heap.size w vs y)(hcells:Qy2 w g 0 vs)(h1:∀u∈vs,u.oneCell'=Bn)(hlen:xs.length+1<=1000000000)(hK:∀p F w',Q91 (.slice e) C w' [A p (xs.length+1) F] (xs++ [y])->Q1 (λc=>C c/\c<w0.heap.size) w w'->K (a.put o.dst (A p (xs.length+1) F)) w'):if Eg o (yielded G a.tmps)=Bn then Hc P o a w K Q else E:=by
 have L:Eg o (yielded G a.tmps)=Bn:=by simp[Eg,H]
 rw[if_pos L];obtain⟨p,F,w',M,O,S⟩:=Q63 (P:=P) w B o.type eT i z bytes ht hi hz hsize hby hzs hb g c hnew hR hbel hvs hcells h1 hlen;unfold Hc;simp[execOp,J,resolve,invoke,builtin,hv,hu,M,Fe];exact hK p F w' O S
theorem Q8u{P}(w){F rest o a Q}(G:o.guard=N)(s x B)(H:o.op=Op.call {callee:=Fp Ft,args:=#[s,x],argTypes:=#[B,B]}){e}(eT)(i:TypeInfo)(z:Bk)(bytes:Nat)(ht:P.underlying B=R (.slice eT))(hi:P.info? eT=R i)(hz:i.zero=R z)(hsize:i.size=e.sz)(hby:i.bytes=bytes)(hzs:z.cells.size=e.sz)(hb:bytes<=200){C:Nat->Prop}(w0:Bh){v:Bk}{xs:List e.den}{y:e.den}{vs:List Bk}(g c:Nat)(hv:a.eval s=v)(hu:a.eval x=A (R ⟨g,0,N⟩) 1 c)(hnew:Q91 (.slice e) C w0 [v] xs)(hR:∀b,w0.heap.size<=b->C b)(hbel:Bp w0.heap.size w0 w)(hvs:Qy7 e w0.heap.size w vs y)(hcells:Qy2 w g 0 vs)(h1:∀u∈vs,u.oneCell'=Bn)(hlen:xs.length+1<=1000000000)(hK:∀p E w',Q91 (.slice e) C w' [A p (xs.length+1) E] (xs++ [y])->Q1 (λc=>C c/\c<w0.heap.size) w w'->wpList P F Q rest (a.put o.dst (A p (xs.length+1) E)) w'):wpList P F Q (o::rest) a w:=by
 refine wpList_plain G λK J=> ?_;obtain⟨p,E,w',L,M,O⟩:=Q63 (P:=P) w B o.type eT i z bytes ht hi hz hsize hby hzs hb g c hnew hR hbel hvs hcells h1 hlen;unfold Hc;simp[execOp,H,resolve,invoke,builtin,hv,hu,L,Fe];exact J _ _ (hK p E w' M O)
theorem Qfo:∀(B:List (List Nat)),(∀i,i<B.length->B.getD i []=[])->B.flatten=[]
 | [],_=>rfl
 |a::r,h=>by have C:=h 0 (by simp);simp only[List.getD_cons_zero]at C;rw[Hw,C,Qfo r λi E=>by have:=h (i+1) (by simp only[List.length_cons];omega);simpa using this];rfl
def Ow.flatBlk{e w b o n c}{xs:List e.den}{F}(h:Ow (.slice e) w [A (R (b,o)) n c] xs F)(G:e.flat=Bn)(H:0<n):
  F=[b]/\n=xs/\n<=c/\∃(cur:Array Bk) (T:Cd),c<=Bu/\(w,oC b cur T)/\o+c * e.sz<=cur.size/\∀(i:Nat) (h:i<xs),Ow e w ((cur.toList.drop (o+i * e.sz)).take e.sz) xs[i] []:=by
 obtain⟨v,B,h⟩:=h;obtain rfl:=(List.cons.inj B).1;rcases h with⟨J,C,a,E,K⟩|⟨b',o',L,cur,T,M,E,O,P,S,U,C,V,W⟩
 ·grind
 grind[Va,Qfo]
theorem Qc3(n i):(Ch n ([]:List Nat)).getD i []=[]:=by
 grind
theorem Qgn(n):(Ch n ([]:List Nat)).flatten=[]:=by simp_all
theorem Ow.tail{e w}{b:Nat}{o n c}{xs:List e.den}{F}(h:Ow (.slice e) w [A (R (b,o)) n c] xs F)(B:e.flat=Bn)(C:0<n)(G:1<c):Ow (.slice e) w [A (R (b,o+e.sz)) (n-1) (c-1)] (xs.drop 1:List e.den) F:=by
 obtain⟨rfl,rfl,H,cur,T,J,E,K,L⟩:=h.flatBlk B C;refine⟨_,rfl,.inr ⟨b,o+e.sz,c-1,cur,T,Ch (xs.length-1) [],by rw[Dp],by rw[Dp];omega,by omega,E, ?_,by rw[Qgn],by simp,λi M=> ?_⟩⟩
 ·have:c * e.sz=(c-1) * e.sz+e.sz:=by rw[<-Nat.succ_mul];congr 1;omega
  omega
 grind
theorem Ow.none0{e w}{b o:Nat}{n c}{xs:List e.den}{F}(h:Ow (.slice e) w [A (R (b,o)) n c] xs F)(B:e.flat=Bn)(C:0<n):Ow (.slice e) w [A (R (b,o)) 0 0] ([]:List e.den) F:=by
 obtain⟨rfl,rfl,H,cur,T,J,E,K,L⟩:=h.flatBlk B C;exact⟨_,rfl,.inr ⟨b,o,0,cur,T,[],rfl,Aj _,Ak _,E,by omega,rfl,rfl,λi G=>by simp at G⟩⟩
theorem Ow.rest{e w}{b:Nat}{o c}{xs:List e.den}{F}(h:Ow (.slice e) w [A (R (b,o)) xs c] xs F)(B:e.flat=Bn)(C:0<xs.length):
  Ow (.slice e) w [if 1=c then A (R (b,o)) 0 0 else A (R (b,o+e.sz)) (xs.length-1) (c-1)] (xs.drop 1:List e.den) F:=by
 obtain⟨-,-,G,-⟩:=h.flatBlk B C;by_cases E:1=c
 ·grind[Ow.none0]
 rw[if_neg E];exact h.tail B C (by omega)
def Ow.initSet{e w w' b o c}{m:Nat}{xs:List e.den}{F}(h:Ow (.slice e) w [A (R (b,o)) xs c] xs F)(G:e.flat=Bn)(H:0<xs.length)(J:m<=xs)(K:Qc b (o+m * e.sz) (c * e.sz) w w'):
  Ow (.slice e) w' [A (R (b,o)) m c] (xs.take m:List e.den) F:=by
 obtain⟨rfl,-,U,cur,T,L,C,V,M⟩:=h.flatBlk G H;obtain⟨E,O,W,X⟩:=K cur T C;refine⟨_,rfl,.inr ⟨b,o,c,E,T,Ch m [],by rw[Cf,Nat.min_eq_left J],by rw[Cf];omega,L,O,by omega,by rw[Qgn],by simp;omega,λi P=> ?_⟩⟩;rw[Cf]at P;rw[Qc3,List.getElem_take];have S:=(M i (by omega)).kept (w':=w') (λb C=>by simp at C);have:(E.toList.drop (o+i * e.sz)).take e.sz=(cur.toList.drop (o+i * e.sz)).take e.sz:=by
  apply List.ext_getElem?;intro j;rw[Cm,Cm];by_cases B:j<e.sz
  ·rw[if_pos B,if_pos B,Cu,Cu,Array.getElem?_toList,Array.getElem?_toList]
   have Y:(i+1) * e.sz<=m * e.sz:=Bd _ (by omega);grind
  rw[if_neg B,if_neg B]
 rw[this];exact S
def Q59:(prog.info? 2).map (λi=>(i.zero,i.size,i.bytes))=R (R (I Z 0),1,8):=by kernel_rfl
def Q94:(prog.info? 207).map (λi=>(i.zero,i.size,i.bytes))=R (R (Dl #[(),()]),2,16):=by kernel_rfl
def Q0a:(prog.info? 40).map (λi=>(i.zero,i.size,i.bytes))=R (R (Dl #[(),()]),2,16):=by kernel_rfl
def Jj:(prog.info? 143).map (λi=>(i.zero,i.size,i.bytes))=R (R (Dl #[(),()]),2,16):=by kernel_rfl
def Q1d:(prog.info? 146).map (λi=>(i.zero,i.size,i.bytes))=R (R (Dl #[(),(),(),()]),4,32):=by kernel_rfl
def Qud(t:Ty)(T:Cd)(w:Bh)(xs:List t.den):Ending->Bh->Prop:=λe w'=>∃v,e=.returned v/\Qxu t T w w' v xs/\(w,w')
abbrev Qhu(f:Nat)(t:Ty)(T:Cd):Prop:=∀(w:Bh) (v:Bk) (xs:List t.den),Rd (.slice t) w [v] xs->xs.length<=100000000->Bv prog f #[v] w (Qud t T w xs)
abbrev Qjh(f:Nat)(t:Ty):Prop:=∀(w:Bh) (v:Bk) (xs:List t.den),Rd (.slice t) w [v] xs->xs.length<=100000000->Bv prog f #[v] w (Qnq (.slice t) w xs)
def Qlz{f t T}(h:Qhu f t T)(B:t.flat=Bn):Qjh f t:=λw v xs C E=>(h w v xs C E).mono λ_ _ ⟨v,e,o,b⟩=>⟨v,e,o.new B,b⟩
def Qhd:Qhu 175 Ty.int 2/\Qhu 303 Q5 207/\Qhu 209 Q5 40/\Qhu 173 Q5 143/\Qhu 174 Z7 146:=by
 refine⟨?_, ?_, ?_, ?_, ?_⟩
 all_goals
  intro w v xs h X;have H:=qh h
 obtain⟨B,C,E,F,G⟩:=Ck Q59;have J:=underlying34;rotate_left;obtain⟨B,C,E,F,G⟩:=Ck Q94;have J:=underlying151;rotate_left;obtain⟨B,C,E,F,G⟩:=Ck Q0a;have J:=underlying121;rotate_left;obtain⟨B,C,E,F,G⟩:=Ck Jj;have J:=underlying41;rotate_left;obtain⟨B,C,E,F,G⟩:=Ck Q1d;have J:=underlying114;rotate_left
 all_goals
  rcases Ju h with⟨rfl,rfl⟩|⟨b,o,Y,rfl,a,c,_⟩
  ·clear h H
   have O:=Lib.run_eql_slice_nil (P:=prog) w;first|(go_enter func175,ntmps175)|(go_enter func303,ntmps303)|(go_enter func209,ntmps209)|(go_enter func173,ntmps173)|(go_enter func174,ntmps174)
   go_wp2;go_ret;exact⟨_,rfl,Qxu.empty _ _ w w,Ai _ _⟩
  clear h;have O:=λ(w:Bh)=>Lib.run_eql_slice_nil (P:=prog) w;have K:=λT=>qh (show Qxu _ T w (w.alloc (.cells #[] T)) (A (R (w,0)) 0 0) (xs.take 0)from⟨World.ownsRow_made w #[] 0 (Aj _) (Ak _) (by simp),λx S=>by simp at S⟩);first|(go_enter func175,ntmps175)|(go_enter func303,ntmps303)|(go_enter func209,ntmps209)|(go_enter func173,ntmps173)|(go_enter func174,ntmps174)
  go_wp2_with(at_builtin;(first|refine Ql _ rfl (.tmp 5) (.tmp 6) 34 rfl (t:=Ty.int) (v:=A (R (w,0)) 0 0) rfl (by decide) w 2 B _ 8 J C E F G rfl (by decide) rfl rfl (K _).o (Rd.kept H (Am (by go_grown))) (by simp;omega) (by simp) ?_|refine Ql _ rfl (.tmp 5) (.tmp 6) 151 rfl (t:=Q5) (v:=A (R (w,0)) 0 0) rfl (by decide) w 207 B _ 16 J C E F G rfl (by decide) rfl rfl (K _).o (Rd.kept H (Am (by go_grown))) (by simp;omega) (by simp) ?_|refine Ql _ rfl (.tmp 5) (.tmp 6) 121 rfl (t:=Q5) (v:=A (R (w,0)) 0 0) rfl (by decide) w 40 B _ 16 J C E F G rfl (by decide) rfl rfl (K _).o (Rd.kept H (Am (by go_grown))) (by simp;omega) (by simp) ?_|refine Ql _ rfl (.tmp 5) (.tmp 6) 41 rfl (t:=Q5) (v:=A (R (w,0)) 0 0) rfl (by decide) w 143 B _ 16 J C E F G rfl (by decide) rfl rfl (K _).o (Rd.kept H (Am (by go_grown))) (by simp;omega) (by simp) ?_|refine Ql _ rfl (.tmp 5) (.tmp 6) 114 rfl (t:=Z7) (v:=A (R (w,0)) 0 0) rfl (by decide) w 146 B _ 32 J C E F G rfl (by decide) rfl rfl (K _).o (Rd.kept H (Am (by go_grown))) (by simp;omega) (by simp) ?_);intro v1 w1 L M)
  have U:=qh L;have V:=qh M;clear L M;go_wp2;go_ret;refine⟨_,rfl,by have h:=U.o;rw[List.take_zero,Bs]at h;exact h, ?_⟩;exact Below.grown ((Ai _ _).alloc (Aj _) _) V (by simp) (by intro k W;simp[Da]at W;omega)
def Q0e:Qjh 175 Ty.int:=Qlz Qhd.1 rfl
def Qc2:Qjh 303 Q5:=Qlz Qhd.2.1 rfl
def Qcx:Qjh 209 Q5:=Qlz Qhd.2.2.1 rfl
def Q3s:Qjh 173 Q5:=Qlz Qhd.2.2.2.1 rfl
def Qhq:Qhu 175 Ty.int 2:=Qhd.1
def Qjv:Qhu 173 Q5 143:=Qhd.2.2.2.1
def Qj2:Qhu 174 Z7 146:=Qhd.2.2.2.2
def Jy{w}(n B C:Int):Bv prog 53 #[n,B,C] w λe w'=>e=.returned (Qxi n B C)/\w=w':=by
 go_enter func53,ntmps53;go_wp2;all_goals(go_ret;exact⟨Vy (by first|(simp_all[Qxi];done)|(simp_all[Qxi];omega)),rfl⟩)
def Qu3{w a b}:Bv prog 220 #[I Z a,I Z b] w λe w'=>e=.returned (I Z (min a b))/\w=w':=by
 go_enter func220,ntmps220;go_wp2;all_goals(go_ret;exact⟨Qt (by omega),rfl⟩)
def Qpe{w a b}:Bv prog 221 #[I Z a,I Z b] w λe w'=>e=.returned (I Z (max a b))/\w=w':=by
 go_enter func221,ntmps221;go_wp2;all_goals(go_ret;exact⟨Qt (by omega),rfl⟩)
def Qv4{w b}:Bv prog 263 #[.bool b] w λe w'=>e=.returned (Q22 b)/\w=w':=by
 go_enter func263,ntmps263;go_wp2;all_goals(go_ret;exact⟨Qt (by simp_all[Q22]),rfl⟩)
def Qun{w}{k:Int}:Bv prog 217 #[k] w λe w'=>e=.returned (Q28 k)/\w=w':=by
 go_enter func217,ntmps217;go_wp2_with(go_at_call 53;refine jX (Jy _ _ _) ?_)
 go_ret;exact⟨rfl,rfl⟩
def Qh8{w}{k:Int}:Bv prog 218 #[k] w λe w'=>e=.returned (Q3p k)/\w=w':=by
 go_enter func218,ntmps218;go_wp2_with(go_at_call 53;refine jX (Jy _ _ _) ?_)
 go_ret;exact⟨rfl,rfl⟩
def Q7x{w}(k:Int):Bv prog 216 #[k] w λe w'=>e=.returned (Zf k)/\w=w':=by
 go_enter func216,ntmps216;go_wp2;all_goals(go_ret;exact⟨Vy (by simp_all[Zf]),rfl⟩)
def Qg5{w}{k:Int}:Bv prog 285 #[k] w λe w'=>e=.returned (Q4y k)/\w=w':=by
 go_enter func285,ntmps285;go_wp2;all_goals(go_ret;exact⟨Vy (by simp_all[Q4y]),rfl⟩)
def Qay{w}{k l:Int}:Bv prog 186 #[k,l] w λe w'=>e=.returned (Zm k l)/\w=w':=by
 go_enter func186,ntmps186;go_wp2_with(first|(go_at_call 53;refine jX (Jy _ _ _) ?_)|(go_at_call 216;refine jX (Q7x _) ?_)|(go_at_call 217;refine jX (Qun) ?_))
 all_goals(go_ret;exact⟨Vy (by simp_all[Zm]),rfl⟩)
def Qfi{w}{a k l:Int}:Bv prog 284 #[a,k,l] w λe w'=>e=.returned (Q3i a k l)/\w=w':=by
 go_enter func284,ntmps284;go_wp2_with(first|(go_at_call 53;refine jX (Jy _ _ _) ?_)|(go_at_call 216;refine jX (Q7x _) ?_)|(go_at_call 186;refine jX (Qay) ?_))
 all_goals(go_ret;exact⟨Vy (by simp_all[Q3i]),rfl⟩)
def Qee{w}{k f:Int}:Bv prog 184 #[k,f] w λe w'=>e=.returned (V4 k f)/\w=w':=by
 by_cases h:Qxi f 0 3=Bn
 ·have B:=Qj.1 h
  go_enter func184,ntmps184;go_wp2_with(go_at_call 53;refine jX (Jy _ _ _) ?_)
  all_goals(go_ret;exact⟨Qt (by simp_all[V4]),rfl⟩)
 have h:Qxi f 0 3=Bm:=by simpa using h
 go_enter func184,ntmps184;go_wp2_with(go_at_call 53;refine jX (Jy _ _ _) ?_)
 all_goals(go_ret;exact⟨Qt (by simp_all[V4]),rfl⟩)
def Qpx{w}{ka la kb lb:Int}:Bv prog 259 #[ka,la,kb,lb] w λe w'=>e=.returned (Vl ka la kb lb)/\w=w':=by
 go_enter func259,ntmps259;go_wp2_with(first|(go_at_call 284;refine jX (Qfi) ?_)|(go_at_call 285;refine jX (Qg5) ?_))
 all_goals(go_ret;exact⟨Qt (by simp_all[Vl]),rfl⟩)
def Qoc{w}{ka la kb lb:Int}:Bv prog 258 #[ka,la,kb,lb] w λe w'=>e=.returned (Q66 ka la kb lb)/\w=w':=by
 go_enter func258,ntmps258;go_wp2_with(go_at_call 186;refine jX (Qay) ?_)
 all_goals(go_ret;exact⟨Vy (by simp_all[Q66]),rfl⟩)
def Vd{w}{ka la kb lb:Int}:Bv prog 256 #[ka,la,kb,lb] w λe w'=>e=.returned (Jb ka la kb lb)/\w=w':=by
 go_enter func256,ntmps256;go_wp2_with(first|(go_at_call 258;refine jX (Qoc) ?_)|(go_at_call 259;refine jX (Qpx) ?_))
 all_goals(go_ret;exact⟨Qt (by simp_all[Jb]),rfl⟩)
def Qkr{w}{ka la kb lb:Int}:Bv prog 238 #[ka,la,kb,lb] w λe w'=>e=.returned (Vg ka la kb lb)/\w=w':=by
 go_enter func238,ntmps238;go_wp2_with(first|(go_at_call 258;refine jX (Qoc) ?_)|(go_at_call 259;refine jX (Qpx) ?_))
 all_goals(go_ret;exact⟨Qt (by simp_all[Vg]),rfl⟩)
def Q2{a b:Bool}(h:a=b):Ending.returned a=.returned b:=by rw[h]
def Qhc{w b o}{k l v:Int}{d:List Int}{ws:List Wd}(h:At Q4 w b o (k,l,v,d,ws)):
  Bv prog 185 #[(b,o)] w λe w'=>e=.returned (Q03 k ws)/\w=w':=by
 obtain⟨F,G,H,J,⟨K,L,M,O,P⟩,⟨S,T,U⟩,⟨V,B,C⟩,⟨w1,w2,E⟩⟩:=h.agent;unfold Bu at B w2;clear C E h;go_enter func185,ntmps185;go_wp2;all_goals(go_ret;exact⟨Qt (by simp_all[Q03]),rfl⟩)
def Qe8{w:Bh}{b o:Nat}{k l v:Int}{d:List Int}{ws:List Wd}(h:At Q4 w b o (k,l,v,d,ws)):
  Bv prog 187 #[(b,o)] w λe w'=>e=.returned (Zd k v d)/\w=w':=by
 obtain⟨z,cd,pw,cw,⟨c0,f,c2,c3,g⟩,⟨i0,i1,i2⟩,⟨d1,m,V⟩,⟨w1,w2,n⟩⟩:=h.agent;unfold Bu at m w2;have K:=qh V;clear V n h w1 w2 f g;by_cases G:k=10\/k=11
 ·by_cases C:v=0/\((k=10->Qxi d 1 4=Bn)/\(k=11->(d:Int)=2))
  ·obtain⟨B,O,P⟩:=C
   subst B;have E:Zd k 0 d=d.all Q3p:=by
    rcases G with rfl|rfl
    ·simp[Zd,O]
    simp[Zd,P]
   have E:=qh E;rcases G with rfl|rfl;case' inl=>have S:=qh (O rfl)
   case' inr=>have p:((d:Int) !=2)=Bm:=by rw[P rfl];rfl
   all_goals
    clear O P;go_enter func187,ntmps187;go_wp2_with(go_at_call 53;refine jX (Jy _ _ _) ?_;rw[S.o])
    go_loopw [3] (λi wr=>∃j:Nat,j<=d/\i=I Z j/\Hd (∀(q:Nat) (L:q<d),q<j->Q3p d[q]=Bn)/\wr=w) (λi _=>d.length-(By i).toNat);case atStart=>exact⟨0,Ak _,rfl,λq _ h=>absurd h (Nat.not_lt_zero _),rfl⟩
    obtain⟨j,hj,rfl,W,rfl⟩:=hrel;by_cases X:j<d
    ·obtain⟨r,s,rfl,H⟩:=Rd.elem K j X
     generalize M:d[j]=x at H;have Y:=qh M;clear M;obtain⟨T,t⟩:=H.int;simp only[Ty.sz,Cc]at T;clear H;cases hdf:Q3p x with
     |true=>
      have J:=qh hdf;go_wp2_with(go_at_call 218;refine jX (Qh8) ?_;rw[J.o])
      go_roundw;case rel=>exact⟨j+1,by omega,by go_num,λq L A0=>(by
       by_cases u:q=j
       ·subst u;rw[Y.o];exact J.o
       exact W.o q L (by omega)),trivial⟩
      simp[By];omega
     |false=>
      have J:=qh hdf;go_wp2_with(go_at_call 218;refine jX (Qh8) ?_;rw[J.o])
      go_ret;refine⟨Q2 ?_,rfl⟩;rw[E.o];symm;rw[List.all_eq_false];exact⟨d[j],As X,by rw[Y.o,J.o];simp⟩
    have A1:d<=j:=by omega
    go_wp2;go_ret;refine⟨Q2 ?_,rfl⟩;rw[E.o];symm;rw[Bf];intro x M;obtain⟨q,L,rfl⟩:=Av.1 M;exact W.o q L (by omega)
  have E:=D (Zd k v d=Bm) (by
   rcases G with rfl|rfl
   ·simp only[Zd]
    simp at C;by_cases B:v=0
    ·simp[C B]
    simp[B]
   simp only[Zd];simp at C;by_cases B:v=0
   ·simp[C B]
   simp[B])
  by_cases B:v=0
  ·subst B
   rcases G with rfl|rfl
   ·have S:=D (Qxi d 1 4=Bm) (by simpa using C)
    clear C;go_enter func187,ntmps187;go_wp2_with(go_at_call 53;refine jX (Jy _ _ _) ?_;rw[S.o])
    go_ret;exact⟨Q2 E.o.symm,rfl⟩
   have p:((d:Int) !=2)=Bn:=by simpa using C
   clear C;go_enter func187,ntmps187;go_wp2
   go_ret;exact⟨Q2 E.o.symm,rfl⟩
  have A2:(v !=0)=Bn:=by simp[B]
  clear C B;rcases G with rfl|rfl
  ·go_enter func187,ntmps187
   go_wp2
   go_ret;exact⟨Q2 E.o.symm,rfl⟩
  go_enter func187,ntmps187;go_wp2
  go_ret;exact⟨Q2 E.o.symm,rfl⟩
 have a:(k==10)=Bm:=by simp;omega
 have c:(k==11)=Bm:=by simp;omega
 clear G;by_cases F:k=8/\d.length=1
 ·obtain⟨rfl,y⟩:=F
  obtain⟨x,rfl⟩:∃x,d=[x]:=by
   match d,y with
   | [x],_=>exact⟨x,rfl⟩
  obtain⟨r,s,rfl,H⟩:=Rd.elem K 0 (by simp);obtain⟨T,t⟩:=H.int;simp only[Dm,Cw,List.getElem_cons_zero]at T;clear H K a c;go_enter func187,ntmps187;go_wp2_with(go_at_call 53;refine jX (Jy _ _ _) ?_)
  all_goals(go_ret;exact⟨Q2 (by simp_all[Zd]),rfl⟩)
 have U:k=8->((d:Int)==1)=Bm:=by intro h;simp at F⊢;have:=F h;omega
 clear F K;by_cases F:k=8
 ·have hl:=U F
  subst F;clear U a c;go_enter func187,ntmps187;go_wp2_with(go_at_call 53;refine jX (Jy _ _ _) ?_)
  all_goals(go_ret;exact⟨Q2 (by simp_all[Zd]),rfl⟩)
 have A3:(k==8)=Bm:=by simp[F]
 clear U F;go_enter func187,ntmps187;go_wp2_with(first|(go_at_call 53;refine jX (Jy _ _ _) ?_)|(go_at_call 218;refine jX (Qh8) ?_))
 all_goals(go_ret;exact⟨Q2 (by simp_all[Zd]),rfl⟩)
end Go.Proofs.YtcjngpfigpglfaaGreatDoor
