import Derived.Deep.RegionHeld3
import Derived.Deep.DeepCutAuto
import Derived.Test.YtcjngpfigpglfaaGreatDoorP01
set_option maxHeartbeats 0
set_option maxRecDepth 100000
set_option linter.all false
namespace Go.Proofs.YtcjngpfigpglfaaGreatDoor
open Go.RowKit Go.Proofs.Tryz
open Go.Value renaming int->I,slice->A
open Go.IntKind renaming i64->Z
open Option renaming none->N,some->R
open OC(oC)
open OR(oR)
open JN(jN)
open And renaming intro->Cj
open Bool renaming false->Bm,true->Bn,false_and->Ct,true_and->Ea,and_false->Ej,and_eq_true->Bi
open Exists renaming intro->Ee
open Go renaming Calls->Bv,World->Bh,maxLen->Bu,wpQuiet_nil->Ek,info_parts->Ck,heap_alloc_new->Bg,bodyPost_ret->Ce,Value->Bk,Addr->Cp
open Go.Obj renaming cells->Gh
open Go.RowKit renaming intOf->By,Below->Bp
open Go.RowKit.Below renaming grown->Ef,setCell->Fy
open Go.Value renaming ownBlock->Da,agg->Dl
open Go.Value.slice renaming injEq->Ci
open List renaming range->Bz,mem_range->Cy,all_eq_false->Gf,mem_map->Dx,mem_flatMap->Cz,setIfInBounds_toArray->Cn,set_cons_zero->Cv,set_cons_succ->Cx,length->Ca,nil_append->Bs,not_mem_nil->Cs,length_take->Cf
open Nat renaming reduceAdd->Bj,not_lt_zero->Dh,mul_one->Cc,zero_add->Cg
def Qx0(a b c):a=Bm\/(a=Bn/\b=Bm)\/(a=Bn/\b=Bn/\c=Bm)\/(a=Bn/\b=Bn/\c=Bn):=by cases a<;>cases b<;>cases c<;>simp
def Qwu(a b c d):a=Bm\/(a=Bn/\b=Bm)\/(a=Bn/\b=Bn/\c=Bm)\/(a=Bn/\b=Bn/\c=Bn/\d=Bm)\/(a=Bn/\b=Bn/\c=Bn/\d=Bn):=by cases a<;>cases b<;>cases c<;>cases d<;>simp
def Qxq{P}{f:Nat}{B W v}(h:Bv P f B W λe w'=>e=.returned v/\W=w'):Bv P f B W λe w'=>e=.returned v/\Q0z W w':=
 h.mono λ_ _ ⟨C,hw⟩=>⟨C,hw▸Q0z.refl _⟩
def Yt{P}{f:Nat}{B}{w:Bh}{n v u}(h:Bv P f B (w.drewN n) λe w'=>e=.returned v/\Q0z (w.drewN n) w')(e:v=u):Bv P f B (w.drewN n) λe w'=>e=.returned u/\∃m,w'=w.drewN m:=
 h.mono λ_ _ ⟨C,m,hm⟩=>⟨by rw[C,e],n+m,by rw[hm,World.drewN_drewN]⟩
def Yv{P}{f:Nat}{B}{w:Bh}{a n v u}(h:Bv P f B (w.drewN (a+n)) λe w'=>e=.returned v/\Q0z (w.drewN (a+n)) w')(e:v=u):Bv P f B (w.drewN (a+n)) λe w'=>e=.returned u/\∃m,w'=w.drewN (a+m):=
 h.mono λ_ _ ⟨C,m,hm⟩=>⟨by rw[C,e],n+m,by rw[hm,World.drewN_drewN,Nat.add_assoc]⟩
def Qxz{a b}(h:a=b):Value.bool a=Value.bool b:=by rw[h]
def Qb2{w b o}{k l v:Int}{d:List Int}{ws:List Wd}(h:At Q4 w b o (k,l,v,d,ws)):
  Bv prog 152 #[(b,o)] w λe w'=>e=.returned (Yb (k,l,v,d,ws))/\Q0z w w':=by
 obtain⟨K,L,M,O,⟨S,T,U,V,W⟩,⟨X,Y,c⟩,⟨f,E,F⟩,⟨w1,w2,G⟩⟩:=h.agent;unfold Bu at E w2;have B:=qh h;clear F G h;generalize hP:V4 k (Q03 k ws)=P;have C:=qh hP;have H:=D (Yb (k,l,v,d,ws)=(decide (0<P) && ((ws:Int)==P) && Zm k l && Zd k v d)) (by simp only[Yb,aK,aL,aV,aD,aW,hP]);clear hP;have g:∀a b:Int,decide (a>b)=decide (b<a):=λa b=>rfl;rcases Qwu (decide (0<P)) ((ws:Int)==P) (Zm k l) (Zd k v d)with q0|⟨q0,q1⟩|⟨q0,q1,q2⟩|⟨q0,q1,q2,q3⟩|⟨q0,q1,q2,q3⟩
 all_goals
  have J:=D ((decide (0<P) && ((ws:Int)==P) && Zm k l && Zd k v d)=_) (by simp only[*,Ct,Ea,Bool.and_true,Ej];exact rfl);go_enter func152,ntmps152;go_wp2
  go_quiet(first|(go_at_call 185;first|exact Yt (Qxq (Qhc (B.o.drewN _))) (rfl)|exact Yv (Qxq (Qhc (B.o.drewN _))) (rfl))|(go_at_call 184;first|exact Yt (Qxq (Qee)) (by rw[C.o])|exact Yv (Qxq (Qee)) (by rw[C.o])))
  go_wp2;go_quiet(first|(go_at_call 186;first|exact Yt (Qxq (Qay)) (Qxz q2)|exact Yv (Qxq (Qay)) (Qxz q2))|(go_at_call 187;first|exact Yt (Qxq (Qe8 (B.o.drewN _))) (Qxz q3)|exact Yv (Qxq (Qe8 (B.o.drewN _))) (Qxz q3)))
  go_wp2;go_ret;exact⟨Q2 (by rw[H.o,J.o]),Q0z.more ⟨_,rfl⟩ _⟩
def Q2b{n:Nat}(h:n<=9223372036854775807):IntKind.i64.wrap ((n:Int)-1)=(n:Int)-1:=by
 simp only[IntKind.wrap_i64];omega
def Qjn{w p c}{n:List Qb}{a s}(h:Rd (.slice Q4) w [A p n c] n)(K:n<=Bu)(F:Qyn a)(G:Qyn s):
  Bv prog 189 #[A p n c,.agg #[a,s]] w (oR w (Q12 n (a,s))):=by
 unfold Bu at K;have H:=qh h;clear h;have F:=F.bd;have G:=G.bd;cases q0:Qxi a 0 ((n:Int)-1)with
 |false=>
  have B:=D (Q12 n (a,s)=Bm) (by simp only[Q12,q0,Ct]);go_enter func189,ntmps189;go_wp2
  go_quiet((go_at_call 53;first|exact Yt (Qxq (Jy _ _ _)) (Qxz q0)|exact Yv (Qxq (Jy _ _ _)) (Qxz q0)))
  go_wp2;go_ret;exact⟨Q2 B.o.symm,Q8 (by go_grown) _⟩
 |true=>
  have L:=Qj.1 q0;have J:a.toNat<n:=by omega
  obtain⟨b,f,rfl,C⟩:=Rd.elem H a.toNat J;generalize hx:n[a.toNat]=x at C;obtain⟨k,l,v,d,ws⟩:=x;obtain⟨g,i,j,m,⟨M,O,P,S,E⟩,⟨o,q,r⟩,⟨T,U,V⟩,⟨w1,w2,W⟩⟩:=C.agent;unfold Bu at w2;have X:=qh hx;simp only[Ty.sz,Bj]at E;have Y:=World.new_ne w _ E;clear V W C hx H M O P S T U;have B:=D (Q12 n (a,s)=Qxi s 0 ((ws:Int)-1)) (by simp only[Q12,q0,Ea,Q7,Qy J,X.o,aW]);have t:(0:Int)<=a:=L.1;have u:a<n:=by omega
  have y:=Q2b (n:=n) (by omega);have z:=Q2b (n:=ws) (by omega);go_enter func189,ntmps189;go_wp2_with fail
  have A0:=Ne.symm Y;have A1:=Ac w _ E;cases q1:Qxi s 0 ((ws:Int)-1)
  all_goals
   go_quiet((go_at_call 53;first|exact Yt (Qxq (Jy _ _ _)) (Qxz q0)|exact Yt (Qxq (Jy _ _ _)) (Qxz q1)|exact Yv (Qxq (Jy _ _ _)) (Qxz q0)|exact Yv (Qxq (Jy _ _ _)) (Qxz q1)))
   go_wp2;go_ret;exact⟨Q2 (by rw[B.o,q1]),Q8 (by go_grown) _⟩
theorem Q1l{n f}(h:∀i,i<n->f i=Bn):(Bz n).all f=Bn:=by
 rw[Bf];intro i B;exact h i (Cy.1 B)
theorem J5{n f}(i)(B:i<n)(h:f i=Bm):(Bz n).all f=Bm:=by
 rw[Gf];exact⟨i,Cy.2 B,by rw[h];simp⟩
def Qhl{w p c}{n:List Qb}(h:Rd (.slice Q4) w [A p n c] n)(S:n<=Bu):
  Bv prog 188 #[A p n c] w λe w'=>e=.returned (Jr n)/\Q0z w w':=by
 unfold Bu at S;have H:=qh h;clear h;cases q0:Qxi n 1 600 with
 |false=>
  have F:=D (Jr n=Bm) (by simp only[Jr,q0,Ct]);go_enter func188,ntmps188;go_wp2_with(go_at_call 53;refine jX (Jy _ _ _) ?_;rw[q0])
  go_ret;exact⟨Q2 F.o.symm,Q0z.refl _⟩
 |true=>
  have F:=D (Jr n=(Bz n).all λ(i:Nat)=>Yb (Q9 n i) && ((aK (Q9 n i)==1)==((i:Int)==0))) (by simp only[Jr,q0,Ea]);go_enter func188,ntmps188;go_wp2_with(go_at_call 53;refine jX (Jy _ _ _) ?_;rw[q0])
  clear q0;go_loopw [3] (λi wr=>∃j:Nat,j<=n/\i=I Z j/\Hd (∀q,q<j->(Yb (Q9 n q) && ((aK (Q9 n q)==1)==((q:Int)==0)))=Bn)/\Hd (Q0z w wr)) (λi _=>n.length-(By i).toNat);case atStart=>exact⟨0,Ak _,rfl,λq h=>absurd h (Dh _),Q0z.refl _⟩
  obtain⟨j,a,rfl,P,E⟩:=hrel;by_cases J:j<n
  ·obtain⟨b,f,rfl,K⟩:=Rd.elem H j J
   generalize hx:n[j]=x at K;obtain⟨k,l,v,d,ws⟩:=x;have L:=D (Q9 n j=(k,l,v,d,ws)) (by rw[Qy J,hx]);clear hx;obtain⟨g,m,o,r,⟨G,T,U,V,W⟩,_,_,_⟩:=(K.drew E).agent;have M:=qh (K.drew E);simp only[Ty.sz,Bj]at G;clear K T U V W;cases hag:Yb (k,l,v,d,ws)with
   |false=>
    have C:=qh hag;go_wp2_with(go_at_call 152;refine jR (Qb2 M) λw' B=> ?_;rw[C.o])
    go_ret;exact⟨Q2 (by rw[F.o];exact(J5 j J (by rw[L.o,C.o];rfl)).symm),E.o.trans B⟩
   |true=>
    have C:=qh hag;cases hkk:((k==1)==((j:Int)==0))with
    |false=>
     have O:=qh hkk;go_wp2_with(go_at_call 152;refine jR (Qb2 M) λw' B=> ?_;rw[C.o];have G:=jC B.below G)
     go_ret;exact⟨Q2 (by rw[F.o];exact(J5 j J (by rw[L.o,C.o];simp only[aK,O.o];rfl)).symm),E.o.trans B⟩
    |true=>
     have O:=qh hkk;go_wp2_with(go_at_call 152;refine jR (Qb2 M) λw' B=> ?_;rw[C.o];have G:=jC B.below G;have X:=qh B;clear B)
     go_roundw;case rel=>exact⟨j+1,by omega,by go_num,λq s=>(by
      by_cases Y:q=j
      ·subst Y;rw[L.o,C.o];simp only[aK,O.o];rfl
      exact P.o q (by omega)),E.o.trans X⟩
     simp[By];omega
  have t:n<=j:=by omega
  go_wp2;go_ret;exact⟨Q2 (by rw[F.o];exact(Q1l λi u=>P.o i (by omega)).symm),E.o⟩
def Z9{P B Q a w l}(C)(E:P.follows .mixedOrders=Bn)(F:Region.lexB .any l.toArray=Bn)(G:C {w with drawn:=w.drawn+1})(h:wpQuiet P l.toArray C (λa'=>∀w',C w'->Q .normal a' w') l a):(Code.region B l.toArray Bn).wp P Q a w:=
 wp_region_quiet E F G (by simpa using h)
theorem Qjw{n i}{k:Nat}(B:k<(aW (Q9 n i))):((i:Int),(k:Int))∈Q0k n i:=
 Dx.2 ⟨k,Cy.2 B,rfl⟩
def Q4n{n:List Qb}{f}(i k:Nat)(B:i<n)(C:k<(aW (Q9 n i)))(h:f ((i:Int),(k:Int))=Bm):(Qk n).all f=Bm:=by
 rw[Gf];exact⟨_,Cz.2 ⟨i,Cy.2 B,Qjw C⟩,by rw[h];simp⟩
def Qg3{n:List Qb}{f}(h:∀i k:Nat,i<n->k<(aW (Q9 n i))->f ((i:Int),(k:Int))=Bn):(Qk n).all f=Bn:=by
 rw[Bf];intro p B;obtain⟨i,C,B⟩:=Cz.1 B;obtain⟨k,E,rfl⟩:=Dx.1 B;grind
def Qvz(w:Bh)(a b c d T):
  ((w.alloc (.cells #[a,b] T)).alloc (.cells #[c,d] T)).cell? ⟨w,0,N⟩=R a/\((w.alloc (.cells #[a,b] T)).alloc (.cells #[c,d] T)).cell? ⟨w,1,N⟩=R b/\
  ((w.alloc (.cells #[a,b] T)).alloc (.cells #[c,d] T)).cell? ⟨w+1,0,N⟩=R c/\((w.alloc (.cells #[a,b] T)).alloc (.cells #[c,d] T)).cell? ⟨w+1,1,N⟩=R d/\Bp w w ((w.alloc (.cells #[a,b] T)).alloc (.cells #[c,d] T)):=by
 refine⟨?_, ?_, ?_, ?_,by go_grown⟩<;>simp
def Qtn{n}{i k:Nat}{B C}(h:Qe n ((i:Int),(k:Int))=(B,C))(q:(B==(i:Int) && C==(k:Int))=Bn):Q0x n ((i:Int),(k:Int))=Bm:=by
 simp only[Bi,beq_iff_eq]at q;have:(Qe n ((i:Int),(k:Int))==((i:Int),(k:Int)))=Bn:=by rw[h,q.1,q.2];simp
 simp only[Q0x,this,Bool.not_true,Ct]
def Qtk{n}{i k:Nat}{B C}(h:Qe n ((i:Int),(k:Int))=(B,C))(q:(B==(i:Int) && C==(k:Int))=Bm):Q0x n ((i:Int),(k:Int))=(Q12 n (B,C) && Qe n (B,C)==((i:Int),(k:Int))):=by
 have:(Qe n ((i:Int),(k:Int))==((i:Int),(k:Int)))=Bm:=by grind
 simp only[Q0x,this,Bool.not_false,Ea];rw[h]
theorem Qwg{w b o}{n:List Qb}(h:At Jl w b o n):
  Bv prog 153 #[(b,o)] w (oR w (Yd n)):=by
 obtain⟨p,c,L,hc,hm,hn⟩:=h.net;have G:=qh hn;have M:=qh hm;clear hn h;unfold Bu at hm;cases q0:Jr n with
 |false=>
  have J:=D (Yd n=Bm) (by simp only[Yd,q0,Ct]);go_enter func153,ntmps153;go_wp2_with(go_at_call 188;refine jR (Qhl G M) λw' V=> ?_;rw[q0])
  go_ret;exact⟨Q2 J.o.symm,V.below⟩
 |true=>
  have J:=D (Yd n=(Qk n).all (Q0x n)) (by simp only[Yd,q0,Ea]);go_enter func153,ntmps153;go_wp2_with(go_at_call 188;refine jR (Qhl G M) λw' V=> ?_;rw[q0];have HD:=qh V;clear V)
  clear q0;go_loopw [3] (λi wr=>∃j:Nat,j<=n/\i=I Z j/\Hd (∀i k:Nat,i<j->k<(aW (Q9 n i))->Q0x n ((i:Int),(k:Int))=Bn)/\Hd (w,wr)) (λi _=>n.length-(By i).toNat);case atStart=>exact⟨0,Ak _,rfl,λi k h=>absurd h (Dh _),HD.o.below⟩
  obtain⟨j,hj,rfl,HI,W⟩:=hrel;clear HD;rename Bh=>wo
  have AA:=jC W L;by_cases O:j<n;rotate_left
  ·have AO:n<=j:=by omega
   clear L;go_wp2;go_ret;exact⟨Q2 (by rw[J.o];exact(Qg3 λi k hi hk=>HI.o i k (by omega) hk).symm),W.o⟩
  obtain⟨b1,o1,rfl,X⟩:=Rd.elem G j O;generalize hx:n[j]=x at X;obtain⟨k,l,v,d,ws⟩:=x;have P:=D (Q9 n j=(k,l,v,d,ws)) (by rw[Qy O,hx]);clear hx;have HA:=qh X;obtain⟨pd,cd,pw,cw,⟨-,-,-,-,Y⟩,-,-,⟨w1,w2,-⟩⟩:=(X.kb W).agent;simp only[Ty.sz,Bj]at Y;unfold Bu at w2;clear X;go_wp2
  go_loopw [5] (λi wq=>∃k:Nat,k<=ws/\i=I Z k/\Hd (∀q:Nat,q<k->Q0x n ((j:Int),(q:Int))=Bn)/\Hd (wo,wq)) (λi _=>ws.length-(By i).toNat);case atStart=>exact⟨0,Ak _,rfl,λq h=>absurd h (Dh _),Ai _ _⟩
  obtain⟨C,hk,rfl,HK,y⟩:=hrel;have z:=jC y.o Y;have K:Hd (w,wr):=Q0 W y.o;by_cases S:C<ws;rotate_left
  ·have AO:ws<=C:=by omega
   clear Y L AA;go_wp2
   go_roundw;case rel=>exact⟨j+1,by omega,by go_num,λi q hi H=>(by
    by_cases A0:i=j
    ·subst A0
     refine HK.o q ?_;rw[P.o]at H;simp only[aW]at H;omega
    exact HI.o i q (by omega) H),K.o⟩
   simp[By];omega
  have A1:=jC K L;have AB:=HA.o.kb K;obtain⟨_,_,_,_,⟨-,-,-,-,a⟩,-,-,⟨-,-,hw⟩⟩:=AB.agent;simp only[Ty.sz,Bj]at a;rw[z]at a;simp only[Option.some.injEq,Ci]at a;obtain⟨rfl,_,rfl⟩:=a;obtain⟨bw,ow,rfl,hE⟩:=Rd.elem hw C S;generalize hxk:ws[C]=xk at hE;obtain⟨E,F⟩:=xk;obtain⟨f0,f1,f,g⟩:=hE.word;simp only[Ty.sz,Bj]at f0 f1;have AC:=D (Qe n ((j:Int),(C:Int))=(E,F)) (by simp only[Qe,Q7,Int.toNat_natCast,P.o,aW];rw[Ab,Ad S,hxk];rfl);clear hE hxk hw AB Y AA L;have ij:Qyn (j:Int):=by unfold Qyn;omega
  have ik:Qyn (C:Int):=by unfold Qyn;omega
  have H:=λw=>Qkj f g ij ik w;have AP:=Ac wr _ z;have AQ:=Ac wr _ A1;have AR:=Ac wr _ f0;simp only at AP AQ AR;go_wp2_with fail
  obtain⟨m0,m1,p0,p1,A2⟩:=Qvz wr j C E F 207;have A3:=jC A2 A1;have m:=qh A2;generalize (wr.alloc (Gh #[j,C] 207)).alloc (Gh #[E,F] 207)=W1 at *
  clear A2 A1 f0 f1 z;cases q1:(E==(j:Int) && F==(C:Int))with
  |true=>
   have r:=qh (Qtn AC q1);rw[q1]at H;go_quiet(fail)
   go_wp2;go_ret;exact⟨Q2 (by rw[J.o];exact(Q4n j C O (by rw[P.o];exact S) r.o).symm),Q8 (Q0 K m.o) _⟩
  |false=>
   have r:=qh (Qtk AC q1);rw[q1]at H;clear q1;have s:=qh (Am (Q0 K m.o));have AD:=qh (Q0 K m.o);cases q2:Q12 n (E,F)with
   |false=>
    have t:=D (Q0x n ((j:Int),(C:Int))=Bm) (by rw[r.o,q2];rfl);(refine Z9 (λw'=>(W1,w')) (by kernel_rfl) (by kernel_rfl) (Ai _ _).drew ?_;(repeat(first|go_big_quiet_skip|(go_big_quiet_want;apply Ee;refine⟨λw' B=> ?_, ?_⟩;(focus(have AE:=jC B m0;have AF:=jC B m1;have AG:=jC B p0;have AH:=jC B p1;have AI:=jC B A3;go_simp;first|done|with_reducible rfl|(exact(Qjn (G.o.kept (s.o.trans (Am B))) M f g).mono λe w3 ⟨T,hb⟩=>⟨by rw[T,q2],Q0 B hb⟩)));simp only[Act.put,Cn,Cv,Cx];go_big_quiet_on)));refine Ek ?_;intro wz U)
    go_wp2;go_ret;exact⟨Q2 (by rw[J.o];exact(Q4n j C O (by rw[P.o];exact S) t.o).symm),Q0 AD U⟩
   |true=>
    have AJ:=q2;simp only[Q12,Bi,Qj]at AJ;obtain⟨⟨g1,g2⟩,g3,g4⟩:=AJ;have g5:E<(n:Int):=by omega
    have A4:E.toNat<n:=by omega
    obtain⟨bb,oo,AK,A5⟩:=Rd.elem (G.o.kept s.o) E.toNat A4;simp only[Option.some.injEq,Addr.mk.injEq,and_true]at AK;obtain⟨rfl,rfl⟩:=AK;generalize hx2:n[E.toNat]=x2 at A5;obtain⟨k2,l2,v2,d2,u⟩:=x2;have A6:Q7 n E=(k2,l2,v2,d2,u):=by unfold Q7;rw[Qy A4,hx2]
    rw[A6]at g4;simp only[aW]at g4;have g6:F<(u:Int):=by omega
    have A7:F.toNat<u:=by omega
    obtain⟨_,_,AV,AW,⟨-,-,-,-,y4⟩,-,-,⟨-,-,AL⟩⟩:=A5.agent;simp only[Ty.sz,Bj]at y4;obtain⟨bz,oz,rfl,A8⟩:=Rd.elem AL F.toNat A7;generalize hy2:u[F.toNat]=y2 at A8;obtain⟨ea,es⟩:=y2;obtain⟨z0,z1,ie,js⟩:=A8.word;simp only[Ty.sz,Bj]at z0 z1;have AM:Qe n (E,F)=(ea,es):=by simp only[Qe,A6,aW];rw[Ab,Ad A7,hy2];rfl
    have t:=D (Q0x n ((j:Int),(C:Int))=(ea==(j:Int) && es==(C:Int))) (by rw[r.o,q2,AM];rfl);have AN:=λw=>Qln ie js ij ik w;clear AM hy2 A8 AL A6 hx2 A5 A4 A7;cases q3:(ea==(j:Int) && es==(C:Int))with
    |false=>
     rw[q3]at AN;have A9:=qh (t.o.trans q3);clear q3;(refine Z9 (λw'=>(W1,w')) (by kernel_rfl) (by kernel_rfl) (Ai _ _).drew ?_;(repeat(first|go_big_quiet_skip|(go_big_quiet_want;apply Ee;refine⟨λw' B=> ?_, ?_⟩;(focus(have AE:=jC B m0;have AF:=jC B m1;have AG:=jC B p0;have AH:=jC B p1;have AI:=jC B A3;have AS:=jC B y4;have AT:=jC B z0;have AU:=jC B z1;go_simp;first|done|with_reducible rfl|(exact(Qjn (G.o.kept (s.o.trans (Am B))) M f g).mono λe w3 ⟨T,hb⟩=>⟨by rw[T,q2],Q0 B hb⟩)));simp only[Act.put,Cn,Cv,Cx];go_big_quiet_on)));refine Ek ?_;intro wz U)
     go_wp2;go_ret;exact⟨Q2 (by rw[J.o];exact(Q4n j C O (by rw[P.o];exact S) A9).symm),Q0 AD U⟩
    |true=>
     rw[q3]at AN;have A9:=qh (t.o.trans q3);clear q3;(refine Z9 (λw'=>(W1,w')) (by kernel_rfl) (by kernel_rfl) (Ai _ _).drew ?_;(repeat(first|go_big_quiet_skip|(go_big_quiet_want;apply Ee;refine⟨λw' B=> ?_, ?_⟩;(focus(have AE:=jC B m0;have AF:=jC B m1;have AG:=jC B p0;have AH:=jC B p1;have AI:=jC B A3;have AS:=jC B y4;have AT:=jC B z0;have AU:=jC B z1;go_simp;first|done|with_reducible rfl|(exact(Qjn (G.o.kept (s.o.trans (Am B))) M f g).mono λe w3 ⟨T,hb⟩=>⟨by rw[T,q2],Q0 B hb⟩)));simp only[Act.put,Cn,Cv,Cx];go_big_quiet_on)));refine Ek ?_;intro wz U)
     go_wp2;go_roundw;case rel=>exact⟨C+1,by omega,by go_num,λq H=>(by
      by_cases A0:q=C
      ·subst A0;exact A9.o
      exact HK.o q (by omega)),Q0 (Q0 y.o m.o) U⟩
     simp[By];omega
def Qiv{w p c}{bk:List Qy0}(h:Rd (.slice Jl) w [A p bk c] bk)(U:bk<=Bu):
  Bv prog 107 #[A p bk c] w (oR w (Q0s bk)):=by
 unfold Bu at U;have H:=qh h;clear h;by_cases E:(bk:Int)<=24
 ·have F:=D (Q0s bk=bk.all Yd) (by simp only[Q0s,E,decide_true,Ea])
  go_enter func107,ntmps107;go_wp2
  go_loopw [3] (λi wr=>∃j:Nat,j<=bk/\i=I Z j/\Hd (∀(q:Nat) (G:q<bk),q<j->Yd bk[q]=Bn)/\Hd (w,wr)) (λi _=>bk.length-(By i).toNat);case atStart=>exact⟨0,Ak _,rfl,λq _ h=>absurd h (Dh _),Ai _ _⟩
  obtain⟨j,W,rfl,O,J⟩:=hrel;by_cases P:j<bk
  ·obtain⟨X,Y,rfl,K⟩:=Rd.elem (H.o.kb J) j P
   generalize L:bk[j]=x at K;have S:=qh L;clear L;simp only[Ty.sz,Cc]at K;have T:=qh K;clear K;cases hok:Yd x with
   |true=>
    have B:=qh hok;go_wp2_with(go_at_call 153;refine jR (Qwg T) λw' C=> ?_;rw[B.o];have M:=qh C;clear C)
    go_roundw;case rel=>exact⟨j+1,by omega,by go_num,λq G a=>(by
     by_cases V:q=j
     ·subst V;rw[S.o];exact B.o
     exact O.o q G (by omega)),Q0 J M⟩
    simp[By];omega
   |false=>
    have B:=qh hok;go_wp2_with(go_at_call 153;refine jR (Qwg T) λw' C=> ?_;rw[B.o];have M:=qh C;clear C)
    go_ret;refine⟨Q2 ?_,Q0 J M⟩;rw[F.o];symm;rw[Gf];exact⟨bk[j],As P,by rw[S.o,B.o];simp⟩
  have E:bk<=j:=by omega
  go_wp2;go_ret;refine⟨Q2 ?_,J.o⟩;rw[F.o];symm;rw[Bf];intro x L;obtain⟨q,G,rfl⟩:=Av.1 L;exact O.o q G (by omega)
 have F:=D (Q0s bk=Bm) (by simp only[Q0s,E,decide_false,Ct]);have b:decide (24<(bk:Int))=Bn:=by simp;omega
 clear E;go_enter func107,ntmps107;go_wp2
 go_ret;exact⟨Q2 F.o.symm,Ai _ _⟩
def Q6c{w p c}{xs:List Int}(h:Rd (.slice .int) w [A p xs c] xs)(L:xs<=Bu):
  Bv prog 54 #[A p xs c] w λe w'=>e=.returned (Vj xs)/\w=w':=by
 unfold Bu at L;have H:=qh h;clear h;go_enter func54,ntmps54;go_wp2
 go_loopw [3] (λi wr=>∃j:Nat,j<=xs/\i=I Z j/\Hd (∀(q:Nat) (C:q<xs),q<j->Qxi xs[q] 0 1000000000=Bn)/\wr=w) (λi _=>xs.length-(By i).toNat);case atStart=>exact⟨0,Ak _,rfl,λq _ h=>absurd h (Dh _),rfl⟩
 obtain⟨j,S,rfl,G,rfl⟩:=hrel;by_cases J:j<xs
 ·obtain⟨T,U,rfl,F⟩:=Rd.elem H j J
  generalize E:xs[j]=x at F;have K:=qh E;clear E;obtain⟨M,V⟩:=F.int;simp only[Ty.sz,Cc]at M;clear F;cases hdf:Qxi x 0 1000000000 with
  |true=>
   have B:=qh hdf;go_wp2_with(go_at_call 53;refine jX (Jy _ _ _) ?_;rw[B.o])
   go_roundw;case rel=>exact⟨j+1,by omega,by go_num,λq C W=>(by
    by_cases O:q=j
    ·subst O;rw[K.o];exact B.o
    exact G.o q C (by omega)),trivial⟩
   simp[By];omega
  |false=>
   have B:=qh hdf;go_wp2_with(go_at_call 53;refine jX (Jy _ _ _) ?_;rw[B.o])
   go_ret;refine⟨Q2 ?_,rfl⟩;have:(xs.all λn=>Qxi n 0 1000000000)=Bm:=by rw[Gf];exact⟨xs[j],As J,by rw[K.o,B.o];simp⟩
   simp only[Vj,this,Ej]
 have X:xs<=j:=by omega
 have P:=D ((xs.all λn=>Qxi n 0 1000000000)=Bn) (by rw[Bf];intro x E;obtain⟨q,C,rfl⟩:=Av.1 E;exact G.o q C (by omega));go_wp2;go_ret;exact⟨Q2 (by simp only[Vj,P.o,Bool.and_true]),rfl⟩
def Qqa{w b o}{x:Qxb}(h:At Qh w b o x):
  Bv prog 55 #[(b,o)] w λe w'=>e=.returned (Qz x)/\w=w':=by
 obtain⟨B,C,xs,E,cs⟩:=x;obtain⟨_,_,_,_,_,_,⟨F,-,-,-,-⟩,_,-,-,-⟩:=h.worker;clear h;go_enter func55,ntmps55;go_wp2;all_goals(go_ret;exact⟨Q2 (by simp_all[Qz,wP]),rfl⟩)
def J2(w b o)(k l v:Int)(d:List Int)(ws:List Wd)(h:At Q4 w b o (k,l,v,d,ws)):
  Bv prog 104 #[(b,o)] w λe w'=>e=.returned (Y9 k)/\w=w':=by
 obtain⟨_,_,_,_,⟨B,-,-,-,-⟩,_,-,-⟩:=h.agent;clear h;go_enter func104,ntmps104;go_wp2_with(go_at_call 53;refine jX (Jy _ _ _) ?_)
 go_ret;exact⟨rfl,rfl⟩
def Qqy(w:Bh)(a b T):
  (w.alloc (.cells #[a,b] T)).cell? (w,0)=R a/\(w.alloc (.cells #[a,b] T)).cell? (w,1)=R b/\Bp w w (w.alloc (.cells #[a,b] T)):=by
 refine⟨?_, ?_,by go_grown⟩<;>simp
def Qpg{w b o}{m:Qyb}{t a}(h:At Qq w b o m)(U:Qyn t)(V:Qyn a):
  Bv prog 103 #[(b,o),.agg #[t,a]] w (oR w (Zc (mC m) (t,a))):=by
 obtain⟨cs,f,⟨rt,ra⟩,xs⟩:=m;obtain⟨pc,cc,_,_,⟨F,-,-,-,-⟩,-,⟨hc,p,W⟩,-⟩:=h.mem;unfold Bu at p;have q:=qh W;clear W h;have A2:=Q2b (n:=cs) (by omega);have U:=U.bd;have V:=V.bd;have r:=Ac w _ F;simp only at r;cases q0:Qxi a 0 ((cs:Int)-1)with
 |false=>
  have O:=D (Zc cs (t,a)=Bm) (by simp only[Zc,q0,Ct]);go_enter func103,ntmps103;go_wp2_with fail
  obtain⟨G,H,E⟩:=Qqy w t a 40;have J:=jC E F;have L:=qh E;generalize w.alloc (Gh #[t,a] 40)=W1 at *
  clear E F;(refine Z9 (λw'=>(W1,w')) (by kernel_rfl) (by kernel_rfl) (Ai _ _).drew ?_;(repeat(first|go_big_quiet_skip|(go_big_quiet_want;apply Ee;refine⟨λw' C=> ?_, ?_⟩;(focus(have s:=jC C G;have u:=jC C H;have y:=jC C J;go_simp;first|done|with_reducible rfl|(exact(Jy _ _ _).mono λe z ⟨P,hb⟩=>⟨by rw[P,q0],hb▸C⟩)));simp only[Act.put,Cn,Cv,Cx];go_big_quiet_on)));refine Ek ?_;intro M B)
  go_wp2;go_ret;exact⟨Q2 O.o.symm,Q0 L B⟩
 |true=>
  have hi:=Qj.1 q0;have X:a.toNat<cs:=by omega
  obtain⟨b1,o1,rfl,K⟩:=Rd.elem q.o a.toNat X;generalize hx:cs[a.toNat]=x at K;obtain⟨k,l,v,d,ws⟩:=x;have HX:=D (Q7 cs a=(k,l,v,d,ws)) (by unfold Q7;rw[Qy X,hx]);simp only[Ty.sz,Bj]at K;have HA:=qh K;obtain⟨_,_,_,_,⟨S,-,-,-,-⟩,-,-,-⟩:=K.agent;clear K hx;have h1:(0:Int)<=a:=hi.1;have h2:a<cs:=by omega
  have O:=D (Zc cs (t,a)=((t==1 && Y9 k)||(t==2 && k==13))) (by simp only[Zc,q0,Ea,HX.o,aK]);go_enter func103,ntmps103;go_wp2_with fail
  obtain⟨G,H,E⟩:=Qqy w t a 40;have J:=jC E F;have Y:=jC E S;have L:=qh E;generalize w.alloc (Gh #[t,a] 40)=W1 at *
  clear E F S;(refine Z9 (λw'=>(W1,w')) (by kernel_rfl) (by kernel_rfl) (Ai _ _).drew ?_;(repeat(first|go_big_quiet_skip|(go_big_quiet_want;apply Ee;refine⟨λw' C=> ?_, ?_⟩;(focus(have s:=jC C G;have u:=jC C H;have y:=jC C J;go_simp;first|done|with_reducible rfl|(exact(Jy _ _ _).mono λe z ⟨P,hb⟩=>⟨by rw[P,q0],hb▸C⟩)));simp only[Act.put,Cn,Cv,Cx];go_big_quiet_on)));refine Ek ?_;intro M B)
  go_wp2;have c:=qh B;have T:=jC B G;have g:=jC B H;have i:=jC B J;have j:=jC B Y;clear B G H J Y;(refine Z9 (λw'=>(M,w')) (by kernel_rfl) (by kernel_rfl) (Ai _ _).drew ?_;(repeat(first|go_big_quiet_skip|(go_big_quiet_want;apply Ee;refine⟨λw' C=> ?_, ?_⟩;(focus(have A3:=jC C T;have A4:=jC C g;have A5:=jC C i;go_simp;first|done|with_reducible rfl|(fail)));simp only[Act.put,Cn,Cv,Cx];go_big_quiet_on)));refine Ek ?_;intro M B)
  have A0:=qh (HA.o.kept ((Am L).trans ((Am c.o).trans (Am B))));have A1:=qh B;have T:=jC B T;have S:=jC B j;clear B g i j;go_wp2_with(go_at_call 104;refine jX (J2 _ _ _ _ _ _ _ _ A0) ?_)
  all_goals(go_ret;exact⟨Q2 (by show _=Zc cs (t,a);rw[O.o];simp_all),Q0 (Q0 L c.o) A1⟩)
def Q3k(w){v}(xs)(h:Rd (.slice .int) w [v] xs)(U:Ca xs<=100000000):
  Bv prog 144 #[v] w λe w'=>∃B,e=.returned B/\Qxu .int 2 w w' B xs/\(w,w'):=by
 obtain⟨p,c,C,V,W,E⟩:=Jh h;obtain rfl:v=A p (Ca xs) c:=by simpa using C
 have H:=qh E;clear h C E;obtain⟨J,K,L,M,O⟩:=Ck Q59;go_enter func144,ntmps144;go_wp2_with(at_builtin;refine Ql _ rfl (.tmp 3) (.tmp 4) 34 rfl (t:=.int) (v:=A (R (w,0)) 0 0) (xs:=[]) (ys:=xs) rfl (by decide) w 2 J _ 8 underlying34 K L M O rfl (by decide) rfl rfl (Qxu.of_block (t:=.int) (xs:=[]) (Bg w (.cells #[] 2)) (Aj _) rfl rfl Q55.nil (by simp[Bu])) (H.o.kb (by go_grown)) (by simp;omega) (by simp) ?_;intro v1 w1 F G;have P:=qh G;have S:=qh F;clear F G)
 go_wp2;go_ret;exact⟨_,rfl,S.o.eqL (Bs _),Ef (show Bp w w _ by go_grown) P (by simp) (by intro k T;simp[Da]at T;omega)⟩
theorem Q2s.kept{w w' b T}(h:Q2s w b T)(k:Bp w w w'):Q2s w' b T:=by
 unfold Q2s at *
 rw[k.block b (Al.1 h).1];exact h
theorem Q4w{w b o}(k l v:Int)(d:List Int)(ws:List Wd)(h:At Q4 w b o (k,l,v,d,ws))(z:d.length<=100000000)(A0:ws.length<=100000000):
  Bv prog 182 #[.pointer (R ⟨b,o,N⟩)] w (Q2w Q4 w (k,l,v,d,ws)):=by
 obtain⟨pd,cd,pw,cw,⟨O,U,V,W,Y⟩,⟨M,i1,i2⟩,⟨d1,d2,hd⟩,⟨w1,w2,hw⟩⟩:=h.agent;have HD:=qh hd;have HW:=qh hw;have HI:=qh (Cj M (Cj i1 i2));have a:=qh (Cj z A0);clear hd hw h M i1 i2 z A0 d2 w2;obtain⟨M,A1,A2,A3,A4⟩:=Ck Q0a;go_enter func182,ntmps182;go_wp2_with fail
 have E:=D (Q2s (w.alloc (.cells #[(),(),(),jN,jN] 172)) w 172) (Bg w _);have AB:(w.alloc (.cells #[(),(),(),jN,jN] 172)).heap.size=w+1:=Be _ _;have F:Bp w w (w.alloc (.cells #[(),(),(),jN,jN] 172)):=by go_grown
 generalize w.alloc (Gh #[(),(),(),jN,jN] 172)=w0 at *
 have J:=qh F;have q0:=O;have O:=jC F O;have q1:=U;have U:=jC F U;have q2:=V;have V:=jC F V;have q3:=W;have W:=jC F W;have q4:=Y;have Y:=jC F Y;have A5:Rd (.slice .int) w0 [A pd d cd] d:=HD.o.kb F;have A6:Rd (.slice Q5) w0 [A pw ws cw] ws:=HW.o.kb F;have AC:=qh A5;have A7:=qh A6;clear F A5 A6 HD HW
 have A8:=qh (show Qxu Q5 40 w0 ((w0.alloc (.cells #[] 40)).drew) (A (R ⟨w+1,0,N⟩) 0 0) []from
  Qxu.of_block (t:=Q5) (xs:=[]) (g:=w.heap.size+1) (by rw[<-AB];exact Bg w0 _) (by omega) rfl rfl Q55.nil (by simp[Bu]))
 obtain⟨z0,z1,z2,z3,z4⟩:=E.o.cells;have AH:=λq=>E.o.blk.free q;have AD:=Ac w0 _ O;simp only at AD
 go_region_held3(λw'=>(w',b,o,I Z k)/\(w',b,o+1,I Z l)/\(w',b,o+2,I Z v)/\(w',b,o+3,A pd d cd)/\(w',b,o+4,A pw ws cw))
  ((refine Qde (w:=w) ?_ q0 q1 q2 q3 q4;first|exact Q0 J G.o|exact(((((Q0 J G).setCell (Aj _) _).setCell (Aj _) _).setCell (Aj _) _).setCell (Aj _) _).setCell (Aj _) _|exact Q0 J B.o|exact(Q0 J B).alloc (by have:=J.o.size;have:=B.o.size;omega) _|(have hq:=J.o;go_grown)))
  (first|((go_at_call 144;refine(Q3k _ _ (AC.o.kb (w:=w0) (by go_grown)) a.o.1).mono ?_;rintro e w1 ⟨vd,rfl,f,j⟩;obtain⟨m,n,rfl,-,-⟩:=f.form;have P:=qh f;have B:=D (w0,w1) (Q0 (by go_grown) j);have AE:=qh j;have AI:=λq=>(E.o.kept B).blk.free q;obtain⟨r0,r1,r2,r3,r4⟩:=(E.o.kept B).cells;clear f j))|((refine J7 _ rfl (.tmp 20) (.tmp 24) 121 rfl (t:=Q5) (v:=A (R ⟨w1,0,N⟩) 0 0) (xs:=[]) (ys:=ws) rfl (by decide) w0 40 M _ 16 underlying121 A1 A2 A3 A4 rfl (by decide) rfl rfl (Qxu.of_block (t:=Q5) (xs:=[]) (Bg w1 (.cells #[] 40)) B.o.size rfl rfl Q55.nil (by simp[Bu])) (A7.o.kept ((Am B).trans (Am (by go_grown)))) (by have:=a.o.2;simp;omega) (by have:=B.o.size;simp;omega) ?_;intro v2 w2 K H;obtain⟨S,T,rfl,-,-⟩:=K.form;have AF:=qh H;have r:=qh (K.eqL (Bs _));have s:=qh ((P.o.kept (show Bp w1 w1 _ by go_grown)).keptG H (λi C=>by intro e;simp[Da]at e;have:=(P.o.block i C).2;omega));have G:=qh (Ef (B.o.alloc B.o.size _) H (by have:=B.o.size;simp;omega) (λi C=>by simp[Da]at C;have:=B.o.size;omega));have AG:=λq=>(E.o.kept G).blk.free q;obtain⟨s0,s1,s2,s3,s4⟩:=(E.o.kept G).cells;clear K H))|((refine J7 _ rfl (.tmp 20) (.tmp 24) 121 rfl (t:=Q5) (v:=A (R ⟨w+1,0,N⟩) 0 0) (xs:=[]) (ys:=ws) rfl (by decide) w0 40 M _ 16 underlying121 A1 A2 A3 A4 rfl (by decide) rfl rfl (A8.o.kept AE) (A7.o.kb B) (by have:=a.o.2;simp;omega) B.o.size ?_;intro v2 w2 K H;obtain⟨S,T,rfl,-,-⟩:=K.form;have AF:=qh H;have r:=qh (K.eqL (Bs _));have s:=qh (P.o.keptG H (λi C=>by intro e;simp[Da]at e;have:=(P.o.block i C).1;simp at this;omega));have G:=qh (Ef B H B.o.size (λi C=>(A8.o.block i C).1));have AG:=λq=>(E.o.kept G).blk.free q;obtain⟨s0,s1,s2,s3,s4⟩:=(E.o.kept G).cells;clear K H)))
 all_goals
  have A9:=D (Qxu .int 2 w0 w2 _ d) (s.o.lo (by first|exact J.o.size|(simp;done)|(simp;omega)));have AA:=D (Qxu Q5 40 w0 w2 _ ws) (r.o.lo (Aj _));clear s r;go_wp2_with fail
  obtain⟨t0,t1,t2,t3,t4⟩:=Qx3 (E.o.kept G) (I Z k) (I Z l) (I Z v) (A m d n) (A S ws T);have u:=qh (Zx (X:=λc=>c=w) (g:=w) rfl [I Z k,I Z l,I Z v,A m d n,A S ws T] 0 w2);simp only[Yu,Cg,Bj]at t0 t1 t2 t3 t4 u;refine Ce (v:=.agg #[I Z k,I Z l,I Z v,A m d n,A S ws T]) (by simp[results,results182,go_sem,t0,t1,t2,t3,t4]) rfl ?_;obtain⟨Fd,od,nd,x⟩:=(A9.o.frame u.o (λi C e=>by have:=(A9.o.block i C).1;omega)).ow rfl;obtain⟨Fw,ow,nw,y⟩:=(AA.o.frame u.o (λi C e=>by have:=(AA.o.block i C).1;omega)).ow rfl;obtain⟨h0,h1,h2⟩:=HI.o;refine⟨_,rfl,⟨Fd++Fw,Ow.mkAgent h0 h1 h2 od ow, ?_,λc L=> ?_⟩, ?_⟩
  ·rw[Ba]
   refine⟨nd,nw,λp hp q hq e=> ?_⟩;subst e;exact absurd ((x p hp).2.one (y p hq).2) (by decide)
  ·rcases At0.1 L with L|L
   ·exact⟨by have:=(x c L).1;omega,(x c L).2.lt⟩
   exact⟨by have:=(y c L).1;omega,(y c L).2.lt⟩
  exact(((((Q0 J G).setCell (Aj _) _).setCell (Aj _) _).setCell (Aj _) _).setCell (Aj _) _).setCell (Aj _) _
def Jt(w:Bh)(a b T U):
  ((w.alloc (.cells a T)).alloc (.cells b U)).heap[w.heap.size]?=R (.cells a T (0,0))/\((w.alloc (.cells a T)).alloc (.cells b U)).heap[w.heap.size+1]?=R (.cells b U (0,0)):=by
 refine⟨?_, ?_⟩
 ·rw[Az _ _ _ (by simp)];exact Bg w _
 have:=Bg (w.alloc (.cells a T)) (.cells b U);simpa using this
def Qf{w:Bh}{w'}{b:Nat}{o}(h:w.heap[b]?=R o)(k:Bp w w w'):w'.heap[b]?=R o:=by
 rw[k.block b (Al.1 h).1];exact h
def Q6m{w:Bh}{w' b o r}(k:w.grownBy w' r)(h:w.heap[b]?=R o)(B:r≠R b):w'.heap[b]?=R o:=by
 rw[k.block b (Al.1 h).1 (λe=>B e.symm)];exact h
def Q7f:(prog.info? 172).map (λi=>(i.zero,i.size,i.bytes))=R (R (Dl #[(),(),(),jN,jN]),5,72):=by kernel_rfl
def Q06(v:Bk)(f t a:Int)(u:Bk):Obj:=.cells #[v,f,t,a,u] 43
def Qgc{w:Bh}{b v u f t a}(h:w.heap[b]?=R (Q06 v f t a u)):((w,b,0,v)/\(w,b,1,f)/\(w,b,2,t)/\(w,b,3,a)/\(w,b,4,u))/\∀q,w.frozen? ⟨b,q,N⟩=Bm:=
 ⟨⟨Q6 h rfl,Q6 h rfl,Q6 h rfl,Q6 h rfl,Q6 h rfl⟩,λq=>Q0u.free (T:=43) ⟨_,h⟩ q⟩
def Qcv{w b v u f t a}(h:w.heap[b]?=R (Q06 v f t a u))(B C)(E F a':Int):
  (Yu w b 0 [B,E,F,a',C]).heap[b]?=R (Q06 B E F a' C):=by
 unfold Q06 at *
 have:=Jn [B,E,F,a',C] 0 w _ h;rw[this];simp[Q1u]
def Q6u{w:Bh}{wc wr X B}(C:Bp w w wc)(F:Q1 (λc=>c=X\/B<=c) wc wr)(hX:w<=X)(J:w<=B):Qh0 w wr:=
 ⟨λa v E=>by have G:=Ac w a E;have H:=(Am C).cell a v E;rw[World.cell?_of_block (w:=wc) (F.block a.block (Ap G C.size) (by rintro(e|e)<;>omega))];exact H⟩
def Qh0.trans2{w w2}(h:Qh0 w w2){X o:Nat}(v){wc}(E:Bp w w wc)(hX:w<=X):Qh0 w (w2.setCell (X,o) v):=
 ⟨λa u B=>by have C:=Ac w a B;rw[World.cell?_setCell_other _ _ _ _ (by intro e;subst e;simp only at C;omega)];exact h.cell a u B⟩
def Qy7.agentShape{B w vs}{k l v:Int}{d:List Int}{ws:List Wd}(h:Qy7 Q4 B w vs (k,l,v,d,ws)):∃(C:Option Cp) (E:Nat) (F:Option Cp) (H:Nat),vs=[I Z k,I Z l,I Z v,A C d E,A F ws H]:=by
 obtain⟨G,J,_⟩:=h;obtain⟨C,E,F,H,_,_,rfl,_⟩:=J.agent;exact⟨C,E,F,H,rfl⟩
theorem Qy7.frame{t B w w' vs x X}(h:Qy7 t B w vs x)(k:Q1 X w w')(hX:∀i,X i->i<B):Qy7 t B w' vs x:=by
 obtain⟨F,o,n,r⟩:=h;exact⟨F,o.frame k λb C=>⟨(r b C).2,λe=>by have:=hX b e;have:=(r b C).1;omega⟩,n,λb C=>⟨(r b C).1,Ap (r b C).2 k.size⟩⟩
def Qwp{k l v a c n m x y}:∀u∈ [I Z k,I Z l,I Z v,A a n x,A c m y],u.oneCell'=Bn:=by
 intro u B;simp only[List.mem_cons,Cs,or_false]at B;rcases B with rfl|rfl|rfl|rfl|rfl<;>rfl
theorem Qpn{w:Bh}{b:Nat}{v u f t a}(h:w.heap[b]?=R (Q06 v f t a u)){B}:(w.setCell (b,0) B).heap[b]?=R (Q06 B f t a u):=by
 unfold Q06 at *
 rw[Z1 h];simp
theorem Qp7{w}(b o)(cs:List Qb)(f G H:Int)(xs:List Wd)(h:At Qq w b o (cs,f,(G,H),xs))(hz:Qyv Qq (cs,f,(G,H),xs)<=100000000):
  Bv prog 143 #[.pointer (R ⟨b,o,N⟩)] w (Q2w Qq w (cs,f,(G,H),xs)):=by
 obtain⟨pc,cc,px,cx,⟨c0,c1,c2,c3,c4⟩,⟨i1,i2,i3⟩,⟨C,hm,AM⟩,⟨BN,BO,AN⟩⟩:=h.mem;unfold Bu at hm;have HC:=qh AM;have HX:=qh AN;have HI:=qh (Cj i1 (Cj i2 i3));have A7:=D (xs.length<=100000000) (by have h1:Qyv Qq (cs,f,(G,H),xs)=Qyv (.slice Q4) cs+(0+((0+0)+Qyv (.slice Q5) xs)):=rfl;have h2:=Zy (e:=Q5) rfl xs;omega);have AW:=D (∀(i:Nat) (E:i<cs),(aD cs[i]).length<=100000000/\(aW cs[i]).length<=100000000) (λi E=>by
  have h1:Qyv Qq (cs,f,(G,H),xs)=Qyv (.slice Q4) cs+(0+((0+0)+Qyv (.slice Q5) xs)):=rfl;have h2:=Q0o Q4 cs;have h3:=Q6i (e:=Q4) E;have h4:=Q9c (e:=Q4) cs (i+1);generalize hx:cs[i]=x at *
  obtain⟨k,l,v,d,ws⟩:=x;have h5:Qyv Q4 (k,l,v,d,ws)=0+(0+(0+(Qyv (.slice .int) d+Qyv (.slice Q5) ws))):=rfl;have h6:=Zy (e:=.int) rfl d;have h7:=Zy (e:=Q5) rfl ws;simp only[aD,aW];omega)
 have AX:=D (cs.length<=100000000) (by have h1:Qyv Qq (cs,f,(G,H),xs)=Qyv (.slice Q4) cs+(0+((0+0)+Qyv (.slice Q5) xs)):=rfl;have h2:=Q0o Q4 cs;omega);clear AM AN h hz i1 i2 i3;obtain⟨i0,A8,A9,AA,AB⟩:=Ck Jj;obtain⟨ia,AY,AZ,B0,B1⟩:=Ck Q7f;go_enter func143,ntmps143;go_upto_region 1 with fail
 have A2:=D ((w.alloc (.cells #[jN,(),(),(),jN] 43)).heap[w.heap.size]?=R (Q06 (A N 0 0) 0 0 0 (A N 0 0))) (Bg w _);have A0:(w.alloc (.cells #[jN,(),(),(),jN] 43)).heap.size=w+1:=Be _ _;have u:Bp w w (w.alloc (.cells #[jN,(),(),(),jN] 43)):=by go_grown
 generalize w.alloc (Gh #[jN,(),(),(),jN] 43)=w0 at *
 have V:=qh u;have A3:=qh (HX.o.kb u);have k1:=jC u c1;have k2:=jC u c2;have k3:=jC u c3;have k4:=jC u c4;have AO:=Ac w0 _ k1;simp only at AO;clear u
 have AC:=qh (show Qxu Q5 143 w0 ((w0.alloc (.cells #[] 143)).drew) (A (R ⟨w+1,0,N⟩) 0 0) []from
  Qxu.of_block (t:=Q5) (xs:=[]) (g:=w.heap.size+1) (by rw[<-A0];exact Bg w0 _) (by omega) rfl rfl Q55.nil (by simp[Bu]))
 have AD:=D (∀c:Array Bk,Qxu Q5 143 w0 (((w0.alloc (.cells #[] 143)).alloc (.cells c 43)).drew) (A (R ⟨w+1,0,N⟩) 0 0) []) (λc=>Qxu.of_block (t:=Q5) (xs:=[]) (g:=w.heap.size+1) (by rw[<-A0];exact(Jt w0 _ _ _ _).1) (by omega) rfl rfl Q55.nil (by simp[Bu]));have AE:=D (∀c:Array Bk,Qxu Q5 143 w0 (((w0.alloc (.cells c 43)).alloc (.cells #[] 143)).drew) (A (R ⟨w+1+1,0,N⟩) 0 0) []) (λc=>Qxu.of_block (t:=Q5) (xs:=[]) (g:=w.heap.size+1+1) (by rw[<-A0];exact(Jt w0 _ _ _ _).2) (by omega) rfl rfl Q55.nil (by simp[Bu]))
 go_cut [3] (λx wx=>∃(X:Nat) (p:Option Cp) (M:Nat),x=.pointer (R ⟨X,0,N⟩)/\w.heap.size+1<=X/\Hd (wx.heap[X]?=R (Q06 (A N 0 0) f G H (A p xs M)))/\Hd (wx.heap[w.heap.size]?=R (Q06 (A N 0 0) 0 0 0 (A N 0 0)))/\
  Hd (Qxu Q5 143 (w+1) wx (A p xs M) xs)/\Hd (w,wx))
 case first=>
  go_region_held3(λw'=>(w',b,o+1,I Z f)/\(w',b,o+2,I Z G)/\(w',b,o+3,I Z H)/\(w',b,o+4,A px xs cx))
   ((refine Q8a (w:=w) ?_ c1 c2 c3 c4;first|with_reducible exact Q0 V J.o|with_reducible exact(Q0 V J).alloc (Au V.o.size J.o.size) _|(with_reducible refine Fy (p:=⟨_,4,N⟩) (Fy (p:=⟨_,3,N⟩) (Fy (p:=⟨_,2,N⟩) (Fy (p:=⟨_,1,N⟩) (Fy (p:=⟨_,0,N⟩) (Q0 V J) ?_ _) ?_ _) ?_ _) ?_ _) ?_ _<;>(simp only;omega))|(have hq:=V.o;go_grown)))
   (first|((refine J7 _ rfl (.tmp 13) (.tmp 17) 41 rfl (t:=Q5) (v:=A (R ⟨w+1,0,N⟩) 0 0) (xs:=[]) (ys:=xs) rfl (by decide) w0 143 i0 _ 16 underlying41 A8 A9 AA AB rfl (by decide) rfl rfl AC (A3.o.kb (by go_grown)) (by have:=A7.o;simp;omega) (by simp) ?_;intro v2 w2 O U;obtain⟨P,W,rfl,-,-⟩:=O.form;have Y:=qh (O.eqL (Bs _));have J:=qh (Ef (show Bp w0 w0 _ by go_grown) U (by simp) (λi E=>(AC.o.block i E).1));clear O U))|((refine J7 _ rfl (.tmp 13) (.tmp 17) 41 rfl (t:=Q5) (v:=A (R ⟨w+1,0,N⟩) 0 0) (xs:=[]) (ys:=xs) rfl (by decide) w0 143 i0 _ 16 underlying41 A8 A9 AA AB rfl (by decide) rfl rfl (AD.o _) (A3.o.kb (by go_grown)) (by have:=A7.o;simp;omega) (by simp<;>omega) ?_;intro v2 w2 O U;obtain⟨P,W,rfl,-,-⟩:=O.form;have Y:=qh (O.eqL (Bs _));have J:=qh (Ef (show Bp w0 w0 _ by go_grown) U (by simp<;>omega) (λi E=>((AD.o #[]).block i E).1));have AF:=D (w2.heap[w.heap.size+1+1]?=R (Q06 (A N 0 0) 0 0 0 (A N 0 0))) ((by have hg:=Q6m (o:=Q06 (A N 0 0) 0 0 0 (A N 0 0)) U (Jt w0 _ _ _ _).2 (by simp[Da]<;>omega);rw[A0]at hg;exact hg));obtain⟨⟨z0,z1,z2,z3,z4⟩,AP⟩:=Qgc AF;clear O U))|((refine J7 _ rfl (.tmp 13) (.tmp 17) 41 rfl (t:=Q5) (v:=A (R ⟨w+1+1,0,N⟩) 0 0) (xs:=[]) (ys:=xs) rfl (by decide) w0 143 i0 _ 16 underlying41 A8 A9 AA AB rfl (by decide) rfl rfl (AE.o _) (A3.o.kb (by go_grown)) (by have:=A7.o;simp;omega) (by simp<;>omega) ?_;intro v2 w2 O U;obtain⟨P,W,rfl,-,-⟩:=O.form;have Y:=qh (O.eqL (Bs _));have J:=qh (Ef (show Bp w0 w0 _ by go_grown) U (by simp<;>omega) (λi E=>((AE.o #[]).block i E).1));have AG:=D (w2.heap[w.heap.size+1]?=R (Q06 (A N 0 0) 0 0 0 (A N 0 0))) ((by have hg:=Q6m (o:=Q06 (A N 0 0) 0 0 0 (A N 0 0)) U (Jt w0 _ _ _ _).1 (by simp[Da]<;>omega);rw[A0]at hg;exact hg));obtain⟨⟨z0,z1,z2,z3,z4⟩,AP⟩:=Qgc AG;clear O U)))
  all_goals(go_wp2;go_meet)
  ·have m:=Qf A2 J.o
   have A4:=J.o.size;exact⟨w2,P,W,rfl,by omega,(show _=R (Q06 _ _ _ _ _)from Bg w2 _),(by rw[Az _ _ _ (by omega)];exact m),(show Qxu _ _ _ _ _ _ from(Y.o.lo (by omega)).kept (by go_grown)),(show Bp w w _ from(Q0 V J).alloc (by omega) _)⟩
  ·have K:=Zx (X:=λc=>c=(w.heap.size+1+1)) (g:=(w.heap.size+1+1)) rfl [jN,I Z f,I Z G,I Z H,A P xs W] 0 w2
   have r:=Qcv AF (A N 0 0) (A P xs W) f G H;simp only[Yu,Cg,Bj]at K r;have m:=Qf A2 J;have A4:=J.o.size;exact⟨(w.heap.size+1+1),P,W,rfl,by omega,r,(by rw[K.block _ (by omega) (by omega)];exact m),(show Qxu _ _ _ _ _ _ from((Y.o.lo (by omega)).frame K (λi E e=>Y.o.ne (b:=(w.heap.size+1+1)) (T:=43) ⟨_,AF.o⟩ (by decide) (by rw[E,e])))),(show Bp w w _ from(((((Q0 V J).setCell (by simp only;omega) _).setCell (by simp only;omega) _).setCell (by simp only;omega) _).setCell (by simp only;omega) _).setCell (by simp only;omega) _)⟩
  have K:=Zx (X:=λc=>c=(w.heap.size+1)) (g:=(w.heap.size+1)) rfl [jN,I Z f,I Z G,I Z H,A P xs W] 0 w2;have r:=Qcv AG (A N 0 0) (A P xs W) f G H;simp only[Yu,Cg,Bj]at K r;have m:=Qf A2 J;have A4:=J.o.size;exact⟨(w.heap.size+1),P,W,rfl,by omega,r,(by rw[K.block _ (by omega) (by omega)];exact m),(show Qxu _ _ _ _ _ _ from((Y.o.lo (by omega)).frame K (λi E e=>Y.o.ne (b:=(w.heap.size+1)) (T:=43) ⟨_,AG.o⟩ (by decide) (by rw[E,e])))),(show Bp w w _ from(((((Q0 V J).setCell (by simp only;omega) _).setCell (by simp only;omega) _).setCell (by simp only;omega) _).setCell (by simp only;omega) _).setCell (by simp only;omega) _)⟩
 obtain⟨X,p,M,rfl,hX,AH,HR,Y,A5⟩:=hcut;clear AC AD AE A2 V A3 k1 k2 k3 k4 AO;have BP:X<wc:=(Al.1 AH).1;have B2:w.heap.size<wc:=(Al.1 HR).1;have B3:=Ac w _ c0;simp only at B3;clear c1 c2 c3 c4;go_wp2
 go_loopw [4] (λi wr=>∃(j n:Nat) (q:Option Cp) (S:Nat),j<=cs/\i=I Z j/\Hd (wr.heap[X]?=R (Q06 (A q n S) f G H (A p xs M)))/\Hd (Qy7 (.slice Q4) wc wr [A q n S] (cs.take j))/\Hd (Q1 (λc=>c=X\/wc<=c) wc wr)) (λi _=>cs.length-(By i).toNat);case atStart=>exact⟨0,0,N,0,Ak _,rfl,AH.o,Qy7.nil _ _,Q1.refl _ _⟩
 obtain⟨j,n,q,S,hj,rfl,AQ,HN,z⟩:=hrel;have AI:=qh (Q6u A5 z.o (by omega) (by omega));have BQ:=AI.o.cell _ _ c0;obtain⟨⟨x0,x1,x2,x3,x4⟩,AP⟩:=Qgc AQ;have A4:=z.o.size;have B4:X<wr:=by omega
 by_cases AJ:j<cs
 ·obtain⟨b1,o1,rfl,hA⟩:=Rd.elem (HC.o.kept AI) j AJ
  have AR:=qh (AW.o j AJ);generalize hx:cs[j]=x at hA;obtain⟨k,l,v,d,ws⟩:=x;have B5:=qh hx;have AS:=D (d.length<=100000000/\ws.length<=100000000) (by have:=AR.o;rw[hx]at this;exact this);clear hx AR;simp only[Ty.sz,Bj]at hA;have HA:=qh hA;clear hA;have AT:=D (cs.take (j+1)=cs.take j++ [(k,l,v,d,ws)]) (by rw[An AJ,B5.o]);obtain⟨L,hL⟩:∃L:List Qb,L=cs.take j:=⟨_,rfl⟩;rw[<-hL]at HN AT;have B6:=D (L.length<=100000000) (by rw[hL,Cf];have:=AX.o;omega);clear hL x1 x2 x3 x4;have BR:(0:Int)<=j:=by omega
  have BS:(j:Int)<cs:=by omega
  obtain⟨n',B7,B8⟩:∃n',n'=n/\n'=L.length:=by obtain⟨p9,c9,h9,_⟩:=(let ⟨F,o,_⟩:=HN.o;o.gen:∃(p:Option Cp) (M:Nat),A q n S=A p L M/\_);simp only[Ci]at h9;exact⟨n,rfl,h9.2.1⟩
  subst B7;subst B8;go_wp2_with fail
  go_region_law
   (first|((refine Qcp _ rfl (.tmp 30) (.tmp 38) 39 rfl (e:=Q4) 172 ia _ 72 underlying39 AY AZ B0 B1 rfl (by decide) (B:=wc) wr (v:=A q L S) (xs:=L) (y:=(k,l,v,d,ws)) (vs:=[I Z k,I Z l,I Z v,A B9 d BA,A BB ws BC]) w1 1 rfl rfl HN A4 (s.o.alloc s.o.size _) ((BD.o.lo (Aj _)).kept (by go_grown)) (Q1n (Q6 (Bg w1 _) rfl) (Q6 (Bg w1 _) rfl) (Q6 (Bg w1 _) rfl) (Q6 (Bg w1 _) rfl) (Q6 (Bg w1 _) rfl)) Qwp (by have:=B6.o;omega) ?_;intro P c2 w2 AU AK;have BE:=qh AU;have AV:=qh (z.o.trans ((Ay (s.o.alloc s.o.size _)).trans (AK.mono λi E=> .inr E.1)));have BF:=qh (Q6u A5 AV (by omega) (by omega));have AL:=D (w2.heap[X]?=R (Q06 (A q L S) f G H (A p xs M))) ((by rw[AK.block X (by rw[Be];omega) (λhh=>by have:=hh.1;omega),Az _ _ _ BG];exact Qf AQ s.o));have BT:=(Qgc AL).2;have BU:=(Qgc AL).1.1;have BV:=qh (BF.o.trans2 (X:=X) (o:=0) (hX:=(by omega)) (A P (L+1) c2) A5);clear AU AK))|((go_simp;go_at_call 182;refine(Q4w _ _ _ _ _ (HA.o.kb (by go_grown)) AS.o.1 AS.o.2).mono ?_;rintro e w1 ⟨vs,rfl,hn,hb⟩;obtain⟨B9,BA,BB,BC,rfl⟩:=hn.agentShape;have BD:=qh hn;have s:=D (wr,w1) (Q0 (by go_grown) hb);have BH:=qh (AI.o.trans (Am s.o));have BW:w1.cell? ⟨X,0,N⟩=R (A q L S):=jC s.o x0;have BG:X<w1:=Ap B4 s.o.size;have BX:=BH.o.cell _ _ c0;clear hn hb;dsimp only)))
  all_goals
   go_wp2
   go_roundw;case rel=>exact⟨j+1,_,_,_,by omega,by go_num,Qpn AL,(show Qy7 _ _ _ _ _ by rw[AT.o];exact BE.o.frame ((Q1.refl (λc=>c=X) w2).setCell rfl _) (λi E=>by omega)),(show Q1 _ _ _ from AV.o.setCell (.inl rfl) _)⟩
   simp[By];omega
 have BI:cs<=j:=by omega
 have BJ:=D (cs.take j=cs) (Ao BI);have m:wr.heap[w.heap.size]?=R (Q06 (A N 0 0) 0 0 0 (A N 0 0)):=by rw[z.o.block _ B2 (by rintro(e|e)<;>omega)];exact HR.o
 have BK:=qh m;obtain⟨⟨r0,r1,r2,r3,r4⟩,BY⟩:=Qgc m;clear m;go_wp2_with fail
 have r:=Qcv BK (A q n S) (A p xs M) f G H;have K:=Zx (X:=λc=>c=w.heap.size) (g:=w) rfl [A q n S,I Z f,I Z G,I Z H,A p xs M] 0 wr;simp only[Yu,Cg,Bj]at r K;obtain⟨⟨t0,t1,t2,t3,t4⟩,-⟩:=Qgc r;refine Ce (v:=.agg #[A q n S,I Z f,I Z G,I Z H,A p xs M]) (by simp[results,results143,go_sem,t0,t1,t2,t3,t4]) rfl ?_;obtain⟨Fc,oc,nc,bc⟩:=HN.o.frame K (λi E=>by omega);rw[BJ.o]at oc;obtain⟨Fx,BL,nx,A6⟩:=Y.o.ow rfl;have A1:∀c∈Fx,c<wc.heap.size:=λc C=>(A6 c C).2.lt;have BM:=BL.frame z.o (λc C=>⟨A1 c C,by
  rintro(e|e)
  ·subst e
   exact absurd ((A6 _ C).2.one ⟨_,AH.o⟩) (by decide)
  have:=A1 c C;omega⟩)
 have ox:=BM.frame K (λc C=>⟨by have:=A1 c C;omega,λe=>by have:=(A6 c C).1;omega⟩);have BZ:=K.size;obtain⟨h1,h2,h3⟩:=HI.o;refine⟨[A q n S,I Z f,I Z G,I Z H,A p xs M],rfl,⟨Fc++Fx,⟨[_],_,Fc,Fx,rfl,rfl,oc,[_],_,[],Fx,rfl,rfl,⟨rfl,h1,rfl⟩,[_,_],_,[],Fx,rfl,rfl,⟨[_],[_],[],[],rfl,rfl,⟨rfl,h2,rfl⟩,⟨rfl,h3,rfl⟩⟩,ox⟩, ?_,λc C=> ?_⟩, ?_⟩
 ·rw[Ba]
  refine⟨nc,nx,λa ha c C e=> ?_⟩;have h4:=(bc a ha).1;have h5:=A1 c C;omega
 ·rcases At0.1 C with C|C
  ·exact⟨by have:=(bc c C).1;omega,(bc c C).2⟩
  exact⟨by have:=(A6 c C).1;omega,by have:=A1 c C;omega⟩
 exact A5.o.trans ((z.o.below (by omega) (λi E=>by rcases E with e|e<;>omega)).trans (K.below (by omega) (λi E=>by omega)))
def Qdj:(prog.info? 116).map (λi=>(i.zero,i.size,i.bytes))=R (R (Dl #[(),(),jN,jN,jN]),5,88):=by kernel_rfl
def Jf(v:Bk)(f t a:Int)(u k:Bk)(c:Int):Obj:=.cells #[v,f,t,a,u,k,c] 46
def Q2z{w:Bh}{b v u k f t a c}(h:w.heap[b]?=R (Jf v f t a u k c)):((w,b,0,v)/\(w,b,1,f)/\(w,b,2,t)/\(w,b,3,a)/\(w,b,4,u)/\(w,b,5,k)/\(w,b,6,c))/\∀q,w.frozen? ⟨b,q,N⟩=Bm:=
 ⟨⟨Q6 h rfl,Q6 h rfl,Q6 h rfl,Q6 h rfl,Q6 h rfl,Q6 h rfl,Q6 h rfl⟩,λq=>Q0u.free (T:=46) ⟨_,h⟩ q⟩
def Q68{w b v u k f t a c}(h:w.heap[b]?=R (Jf v f t a u k c))(B C E)(F G a' c':Int):
  (Yu w b 0 [B,F,G,a',C,E,c']).heap[b]?=R (Jf B F G a' C E c'):=by
 unfold Jf at *
 have:=Jn [B,F,G,a',C,E,c'] 0 w _ h;rw[this];simp[Q1u]
theorem Qlh{w:Bh}{b:Nat}{v u k f t a c}(h:w.heap[b]?=R (Jf v f t a u k c)){B}:(w.setCell (b,5) B).heap[b]?=R (Jf v f t a u B c):=by
 unfold Jf at *
 rw[Z1 h];simp
def Qy7.memShape{B w vs}{cs:List Qb}{f t a:Int}{xs:List Wd}(h:Qy7 Qq B w vs (cs,f,(t,a),xs)):∃(q:Option Cp) (C:Nat) (p:Option Cp) (E:Nat),vs=[A q cs C,f,t,a,A p xs E]:=by
 obtain⟨G,F,_⟩:=h;obtain⟨_,_,_,_,rfl,_,H,_,_,_,_,rfl,_,⟨rfl,_⟩,_,_,_,_,rfl,_,⟨_,_,_,_,rfl,_,⟨rfl,_⟩,⟨rfl,_⟩⟩,J⟩:=F;obtain⟨q,C,rfl,_⟩:=V5 H;obtain⟨p,E,rfl,_⟩:=V5 J;exact⟨q,C,p,E,rfl⟩
theorem Q1.grown{X a w w' r}(h:Q1 X a w)(k:w.grownBy w' r)(C:∀b,r=R b->a<=b\/X b):Q1 X a w':=
 ⟨k.os.trans h.os,k.tape.trans h.tape,k.output.trans h.output,Au h.size k.size,λb B hX=>by rw[k.block b (Ap B h.size) (λe=>(C b e.symm).elim (λE=>by omega) hX)];exact h.block b B hX⟩
def Q37(p v:Int)(a b c:Bk):Obj:=.cells #[p,v,a,b,c] 116
def Qu4{w:Bh}{g p v a b c}(h:w.heap[g]?=R (Q37 p v a b c)):((w,g,0,p)/\(w,g,1,v)/\(w,g,2,a)/\(w,g,3,b)/\(w,g,4,c))/\∀q,w.frozen? ⟨g,q,N⟩=Bm:=
 ⟨⟨Q6 h rfl,Q6 h rfl,Q6 h rfl,Q6 h rfl,Q6 h rfl⟩,λq=>Q0u.free (T:=116) ⟨_,h⟩ q⟩
def Qo0{w:Bh}{g:Nat}{p v a b c}(h:w.heap[g]?=R (Q37 p v a b c))(u):(w.setCell (g,2) u).heap[g]?=R (Q37 p v u b c):=by
 unfold Q37 at *;rw[Z1 h];simp
def Qpy{w:Bh}{g:Nat}{p v a b c}(h:w.heap[g]?=R (Q37 p v a b c))(u):(w.setCell (g,3) u).heap[g]?=R (Q37 p v a u c):=by
 unfold Q37 at *;rw[Z1 h];simp
def Qve{w:Bh}{g:Nat}{p v a b c}(h:w.heap[g]?=R (Q37 p v a b c))(u):(w.setCell (g,4) u).heap[g]?=R (Q37 p v a b u):=by
 unfold Q37 at *;rw[Z1 h];simp
theorem Z3{w:Bh}{b:Nat}{o o'}(h:w.heap[b]?=R o):(w.alloc o').heap[b]?=R o:=by
 rw[Az _ _ _ (Al.1 h).1];exact h
def Q0d{t T}(w:Bh)(n:Nat)(B:n=w)(C:t.flat=Bn):Qxu t T n (w.alloc (.cells #[] T)) (A (R (n,0)) 0 0) []:=by
 subst B;exact Qxu.of_block (t:=t) (xs:=[]) (Bg w _) (Aj _) C rfl Q55.nil (by simp[Bu])
def Qw4{p v a b c n m k x y z}:∀u∈ [I Z p,I Z v,A a n x,A b m y,A c k z],u.oneCell'=Bn:=by
 intro u B;simp only[List.mem_cons,Cs,or_false]at B;rcases B with rfl|rfl|rfl|rfl|rfl<;>rfl
def Qy7.worker{B w L M}{ys:List Wd}{F:List Qy3}{G:List Int}{a b c x y z}(E:Qyn L)(T:Qyn M)(U:Qxu Q5 143 B w (A a ys x) ys)(V:Qxu Z7 146 B w (A b F y) F)(W:Qxu .int 2 B w (A c G z) G):
  Qy7 Qh B w [L,M,A a ys x,A b F y,A c G z] (L,M,ys,F,G):=by
 obtain⟨O,X,Y,H⟩:=U.ow rfl;obtain⟨P,d,f,J⟩:=V.ow rfl;obtain⟨S,g,h,K⟩:=W.ow rfl;refine⟨O++(P++S),⟨[_],_,[],_,rfl,rfl,⟨rfl,E,rfl⟩,[_],_,[],_,rfl,rfl,⟨rfl,T,rfl⟩,[_],_,O,_,rfl,rfl,X,[_],[_],P,S,rfl,rfl,d,g⟩, ?_,λq C=> ?_⟩
 ·rw[Ba,Ba]
  refine⟨Y,⟨f,h,λp E q C e=> ?_⟩,λp E q C e=> ?_⟩
  ·subst e;exact absurd ((J p E).2.one (K p C).2) (by decide)
  subst e;rcases At0.1 C with C|C
  ·exact absurd ((H p E).2.one (J p C).2) (by decide)
  exact absurd ((H p E).2.one (K p C).2) (by decide)
 rcases At0.1 C with C|C
 ·exact⟨(H q C).1,(H q C).2.lt⟩
 rcases At0.1 C with C|C
 ·exact⟨(J q C).1,(J q C).2.lt⟩
 exact⟨(K q C).1,(K q C).2.lt⟩
def Q0h(w:Bh)(a v c T):((w.setCell a v).alloc (.cells c T)).heap[w.heap.size]?=R (.cells c T (0,0)):=by
 have:=Bg (w.setCell a v) (.cells c T);simpa using this
theorem Qnh(w b o)(cs:List Qb)(f H J:Int)(xs:List Wd)(E:List Qxb)(M:Int)(h:At Qv w b o ((cs,f,(H,J),xs),E,M))(hz:Qyv Qv ((cs,f,(H,J),xs),E,M)<=100000000):
  Bv prog 92 #[.pointer (R ⟨b,o,N⟩)] w (Q2w Qv w ((cs,f,(H,J),xs),E,M)):=by
 obtain⟨AN,CC,CD,⟨c5,c6⟩,AO,⟨K,hm,AP⟩⟩:=h.pool;unfold Bu at hm;have HC:=qh AP;have HM:=qh AN;have HI:=qh AO;have B6:Qyv Qv ((cs,f,(H,J),xs),E,M)=Qyv Qq (cs,f,(H,J),xs)+(Qyv (.slice Qh) E+0):=rfl;have B7:=D (Qyv Qq (cs,f,(H,J),xs)<=100000000) (by omega);have B8:=D (E.length<=100000000) (by have:=Q0o Qh E;omega);have B9:=D (∀(i:Nat) (C:i<E),(wX E[i]).length<=100000000/\(wL E[i]).length<=100000000/\(wC E[i]).length<=100000000) (λi C=>by
  have h2:=Q0o Qh E;have h3:=Q6i (e:=Qh) C;have h4:=Q9c (e:=Qh) E (i+1);generalize hx:E[i]=x at *
  obtain⟨k,l,ys,T,O⟩:=x;have h5:Qyv Qh (k,l,ys,T,O)=0+(0+(Qyv (.slice Q5) ys+(Qyv (.slice Z7) T+Qyv (.slice .int) O))):=rfl;have h6:=Zy (e:=Q5) rfl ys;have h7:=Zy (e:=Z7) rfl T;have h8:=Zy (e:=.int) rfl O;simp only[wX,wL,wC];omega)
 clear AP AN h hz B6 AO;obtain⟨iw,BA,BB,BC,BD⟩:=Ck Qdj;go_enter func92,ntmps92;go_upto_region 1 with fail
 have A6:=D ((w.alloc (.cells #[jN,(),(),(),jN,jN,()] 46)).heap[w.heap.size]?=R (Jf (A N 0 0) 0 0 0 (A N 0 0) (A N 0 0) 0)) (Bg w _);have BE:(w.alloc (.cells #[jN,(),(),(),jN,jN,()] 46)).heap.size=w+1:=Be _ _;have A3:Bp w w (w.alloc (.cells #[jN,(),(),(),jN,jN,()] 46)):=by go_grown
 generalize w.alloc (Gh #[jN,(),(),(),jN,jN,()] 46)=w0 at *
 have m:=qh A3;have A7:=qh (HM.o.kb A3);have BF:=D (At Qq w0.drew b o (cs,f,(H,J),xs)) (A7.o.kept ⟨λa v h=>h⟩);have k6:=jC A3 c6;have AQ:=Ac w0 _ k6;simp only at AQ;clear A3;have AR:=D (((w0.alloc (.cells #[jN,(),(),(),jN,jN,()] 46)).drew).heap[w.heap.size+1]?=R (Jf (A N 0 0) 0 0 0 (A N 0 0) (A N 0 0) 0)) ((by have hg:=Bg w0 (.cells #[jN,(),(),(),jN,jN,()] 46);rw[BE]at hg;unfold Jf;exact hg))
 go_cut [3] (λx wx=>∃(X:Nat) (q p:Option Cp) (P S:Nat),x=.pointer (R ⟨X,0,N⟩)/\w.heap.size+1<=X/\Hd (wx.heap[X]?=R (Jf (A q cs P) f H J (A p xs S) (A N 0 0) M))/\Hd (wx.heap[w.heap.size]?=R (Jf (A N 0 0) 0 0 0 (A N 0 0) (A N 0 0) 0))/\
  Hd (∃F,Ow Qq wx [A q cs P,I Z f,I Z H,I Z J,A p xs S] (cs,f,(H,J),xs) F/\F.Nodup/\∀b∈F,w.heap.size+1<=b/\b<wx.heap.size/\b≠X)/\Hd (w,wx))
 case first=>
  go_region_held3(λw'=>w'.cell? ⟨b,o+6,N⟩=R (I Z M))
   ((refine Qwf (w:=w) ?_ c6;first|with_reducible exact Q0 m.o U.o|with_reducible exact(Q0 m.o U).alloc (Au m.o.size U.o.size) _|(with_reducible refine Fy (p:=⟨_,6,N⟩) (Fy (p:=⟨_,5,N⟩) (Fy (p:=⟨_,4,N⟩) (Fy (p:=⟨_,3,N⟩) (Fy (p:=⟨_,2,N⟩) (Fy (p:=⟨_,1,N⟩) (Fy (p:=⟨_,0,N⟩) (Q0 m.o U) ?_ _) ?_ _) ?_ _) ?_ _) ?_ _) ?_ _) ?_ _<;>(simp only;omega))|(have hq:=m.o;go_grown)))
   (first|((go_at_call 143;refine(Qp7 b o cs f H J xs (A7.o.kb (by go_grown)) B7).mono ?_;rintro e w1 ⟨vs,rfl,hn,G⟩;obtain⟨q,P,p,S,rfl⟩:=hn.memShape;have s:=qh hn;have U:=D (w0,w1) (Q0 (by go_grown) G);(first|(with_reducible have A8:=Qf AR G;obtain⟨⟨z0,z1,z2,z3,z4,z5,z6⟩,BG⟩:=Q2z A8;have BH:=qh A8;clear A8)|skip);clear hn G)))
  all_goals(go_wp2;go_meet)
  ·have u:=Qf A6 U.o
   have A9:=U.o.size;obtain⟨F,oF,nF,z⟩:=s.o;exact⟨w1,q,p,P,S,rfl,by omega,(show _=R (Jf _ _ _ _ _ _ _)from Bg w1 _),(by rw[Az _ _ _ (by omega)];exact u),⟨F,oF.kept (λb G=>Az _ _ _ (z b G).2),nF,λb G=>⟨by have h1:=(z b G).1;have h2:w0.drew.heap.size=w0:=rfl;omega,by have:=(z b G).2;rw[Be];omega,by have:=(z b G).2;omega⟩⟩,(show Bp w w _ from(Q0 m.o U).alloc (by omega) _)⟩
  have V:=Zx (X:=λc=>c=(w.heap.size+1)) (g:=(w.heap.size+1)) rfl [A q cs P,I Z f,I Z H,I Z J,A p xs S,jN,I Z M] 0 w1;have A0:=Q68 BH (A q cs P) (A p xs S) (A N 0 0) f H J M;simp only[Yu,Cg,Bj]at V A0;have u:=Qf A6 U;have A9:=U.o.size;have CE:=V.size;obtain⟨F,oF,nF,z⟩:=s.o;have A1:∀b∈F,w.heap.size+2<=b/\b<w1.heap.size:=λb G=>⟨by have h1:=(z b G).1;simp at h1;omega,(z b G).2⟩;exact⟨(w.heap.size+1),q,p,P,S,rfl,by omega,A0,(by rw[V.block _ (by omega) (by omega)];exact u),⟨F,oF.frame V (λb G=>⟨(A1 b G).2,by have:=(A1 b G).1;omega⟩),nF,λb G=>⟨by have:=(A1 b G).1;omega,by have:=(A1 b G).2;omega,by have:=(A1 b G).1;omega⟩⟩,(show Bp w w _ from(Q0 m.o U).trans (V.below (by omega) (λi C=>by omega)))⟩
 obtain⟨X,q,p,P,S,rfl,hX,AS,HR,BI,AT⟩:=hcut;clear A6 m A7 BF AR k6 AQ;have CF:X<wc:=(Al.1 AS).1;have BJ:w.heap.size<wc:=(Al.1 HR).1;have BK:=Ac w _ c5;simp only at BK;clear c6;go_wp2
 go_loopw [4] (λi wr=>∃(j n:Nat) (Y:Option Cp) (d:Nat),j<=E/\i=I Z j/\Hd (wr.heap[X]?=R (Jf (A q cs P) f H J (A p xs S) (A Y n d) M))/\Hd (Qy7 (.slice Qh) wc wr [A Y n d] (E.take j))/\Hd (Q1 (λc=>c=X\/wc<=c) wc wr)) (λi _=>E.length-(By i).toNat);case atStart=>exact⟨0,0,N,0,Ak _,rfl,AS.o,Qy7.nil _ _,Q1.refl _ _⟩
 obtain⟨j,n,Y,d,hj,rfl,AU,s,HF⟩:=hrel;have AV:=qh (Q6u AT HF (by omega) (by omega));have CG:=AV.o.cell _ _ c5;obtain⟨⟨x0,x1,x2,x3,x4,x5,x6⟩,BG⟩:=Q2z AU;have A9:=HF.o.size;have CH:X<wr:=by omega
 by_cases AA:j<E
 ·obtain⟨b1,o1,rfl,hA⟩:=Rd.elem (HC.o.kept AV) j AA
  have AW:=qh (B9.o j AA);generalize hx:E[j]=x at hA;obtain⟨k,l,ys,T,O⟩:=x;have BL:=qh hx;have AB:=D (ys.length<=100000000/\T.length<=100000000/\O.length<=100000000) (by have:=AW.o;rw[hx]at this;exact this);clear hx AW;simp only[Ty.sz,Bj]at hA;obtain⟨py,cy,pl,cl,pk,ck,⟨e0,e1,e2,e3,e4⟩,⟨ip,iv⟩,⟨-,-,AX⟩,⟨-,-,AY⟩,⟨-,-,AZ⟩⟩:=At.worker hA;have HY:=qh AX;have BM:=qh AY;have HK:=qh AZ;have B0:=qh (Cj ip iv);clear hA AX AY AZ ip iv;have BN:=Ac wr _ e0;simp only at BN;obtain⟨i0,BO,BP,BQ,BR⟩:=Ck Jj;obtain⟨il,BS,BT,BU,BV⟩:=Ck Q1d;have B1:=D (E.take (j+1)=E.take j++ [(k,l,ys,T,O)]) (by rw[An AA,BL.o]);obtain⟨L,hL⟩:∃L:List Qxb,L=E.take j:=⟨_,rfl⟩;rw[<-hL]at s B1;have BW:=D (L.length<=100000000) (by rw[hL,Cf];have:=B8.o;omega);clear hL x0 x1 x2 x3 x4 x6;have CI:(0:Int)<=j:=by omega
  have CJ:(j:Int)<E:=by omega
  obtain⟨n',BX,BY⟩:∃n',n'=n/\n'=L.length:=by obtain⟨p9,c9,h9,_⟩:=(let ⟨F,o,_⟩:=s.o;o.gen:∃(p:Option Cp) (BZ:Nat),A Y n d=A p L BZ/\_);simp only[Ci]at h9;exact⟨n,rfl,h9.2.1⟩
  subst BX;subst BY;go_wp2_with(first|((at_builtin;refine Ql _ rfl (.tmp 31) (.tmp 33) 41 rfl (t:=Q5) (v:=A (R ⟨wr+1,0,N⟩) 0 0) (xs:=[]) (ys:=ys) rfl (by decide) (wr+1) 143 i0 _ 16 underlying41 BO BP BQ BR rfl (by decide) rfl rfl (Q0d _ _ (by simp) rfl) (HY.o.kb (by go_grown)) (by have:=AB.o.1;simp;omega) (by simp) ?_;intro v1 w1 AC AD;obtain⟨p1,c1,rfl,-,-⟩:=AC.form;have A4:=qh (AC.eqL (Bs _));have U:=qh (Ef (show Bp wr wr _ by go_grown) AD (by simp<;>omega) (λi C=>by simp[Da]at C;omega));have AE:=D (w1.heap[wr.heap.size]?=R (Q37 k l (A py ys cy) (A pl T cl) (A pk O ck))) (Q6m AD (Z3 (Bg wr _)) (by simp[Da]));have C0:wr.heap.size<w1:=(Al.1 AE).1;obtain⟨⟨f0,f1,f2,f3,f4⟩,ff⟩:=Qu4 AE;clear AC AD))|((at_builtin;go_loud(refine Ql _ rfl (.tmp 36) (.tmp 38) 114 rfl (t:=Z7) (v:=A (R ⟨w1,0,N⟩) 0 0) (xs:=[]) (ys:=T) rfl (by decide) w1 146 il _ 32 underlying114 BS BT BU BV rfl (by decide) rfl rfl (Q0d _ _ (by simp) rfl) (BM.o.kb ((U.o.setCell (Aj _) _).alloc (by simp;omega) _)) (by have:=AB.o.2.1;simp;omega) (by simp) ?_;intro v2 w2 AF AG;obtain⟨p2,c2,rfl,-,-⟩:=AF.form;have AH:=D (Q1 (λc=>c=wr) w1 w2) (Q1.grown (((Q1.refl (λc=>c=wr) w1).setCell rfl _).alloc _) AG (λi C=>by simp[Da]at C;left;omega));have AI:=qh (AF.eqL (Bs _));have C1:=qh (A4.o.frame AH (λi C e=>by have:=(A4.o.block i C).1;omega));have B2:=D (w2.heap[wr.heap.size]?=R (Q37 k l (A p1 ys c1) (A pl T cl) (A pk O ck))) (Q6m AG (Z3 (Qo0 AE _)) (by simp[Da];omega));have B3:=qh (U.o.trans (AH.o.below (Nat.le_of_lt C0) (λi C=>Nat.le_of_eq C.symm)));have CK:=AH.o.size;clear f0 f1 f2 f3 f4 ff;obtain⟨⟨f0,f1,f2,f3,f4⟩,ff⟩:=Qu4 B2;clear AF AG)))|((go_at_call 144;go_loud(refine(Q3k _ O (HK.o.kb (B3.o.setCell (Aj _) _)) AB.o.2.2).mono ?_;rintro e W ⟨v3,rfl,ho,G⟩;obtain⟨p3,c3,rfl,-,-⟩:=ho.form;have A5:=D (Q1 (λc=>c=wr) w2 W) (((Q1.refl (λc=>c=wr) w2).setCell rfl _).trans (Ay G));have B4:=qh ho;have C2:=qh (C1.o.frame A5 (λi C e=>by have:=(A4.o.block i C).1;omega));have C3:=qh (AI.o.frame A5 (λi C e=>by have:=(AI.o.block i C).1;omega));have C4:=D (W.heap[wr.heap.size]?=R (Q37 k l (A p1 ys c1) (A p2 T c2) (A pk O ck))) (Qf (Qpy B2 _) G);have AJ:=qh (B3.o.trans (A5.o.below (by omega) (λi C=>Nat.le_of_eq C.symm)));have CL:=A5.o.size;clear f0 f1 f2 f3 f4 ff;obtain⟨⟨f0,f1,f2,f3,f4⟩,ff⟩:=Qu4 C4;have AK:=qh (Qf AU AJ);have y5:=(Q2z AK).1.2.2.2.2.2.1;have yf:=(Q2z AK).2;clear ho G)))|((at_builtin;go_loud(have A2:=D (Q1 (λc=>c=wr) W ((W.setCell ⟨wr,4,N⟩ (A p3 O c3)).alloc (.cells #[I Z k,I Z l,A p1 ys c1,A p2 T c2,A p3 O c3] 116))) (((Q1.refl (λc=>c=wr) W).setCell rfl _).alloc _);refine Q53 _ rfl (.tmp 46) (.tmp 48) 44 rfl (e:=Qh) 116 iw _ 88 underlying44 BA BB BC BD rfl (by decide) (B:=wc) wr (v:=A Y L d) (xs:=L) (y:=(k,l,ys,T,O)) (vs:=[I Z k,I Z l,A p1 ys c1,A p2 T c2,A p3 O c3]) W 1 rfl rfl s.o A9 ((AJ.o.setCell (Aj _) _).alloc (by simp;omega) _) (Qy7.worker B0.o.1 B0.o.2 ((C2.o.frame A2 (λi C e=>by have:=(A4.o.block i C).1;omega)).lo (by omega)) ((C3.o.frame A2 (λi C e=>by have:=(AI.o.block i C).1;omega)).lo (by omega)) ((B4.o.frame A2 (λi C e=>by have:=(B4.o.block i C).1;simp at this;omega)).lo (by simp;omega))) (Q1n (Q6 (Q0h W _ _ _ _) rfl) (Q6 (Q0h W _ _ _ _) rfl) (Q6 (Q0h W _ _ _ _) rfl) (Q6 (Q0h W _ _ _ _) rfl) (Q6 (Q0h W _ _ _ _) rfl)) Qw4 (by have:=BW.o;omega) ?_;intro p4 c4 w4 B5 AL;have C5:=qh B5;have C6:=qh (HF.o.trans ((Ay AJ).trans ((A2.o.mono (λi C=> .inr (by omega))).trans (AL.mono λi C=> .inr C.1))));have AM:=D (w4.heap[X]?=R (Jf (A q cs P) f H J (A p xs S) (A Y L d) M)) ((by rw[AL.block X (by rw[Be];simp;omega) (λhh=>by have:=hh.1;omega),A2.o.block X (by omega) (by omega)];exact AK.o));have CM:=(Q2z AM).2;have CN:=(Q2z AM).1.2.2.2.2.2.1;clear B5 AL))))
  go_roundw;case rel=>exact⟨j+1,_,_,_,by omega,by go_num,Qlh AM,(show Qy7 _ _ _ _ _ by rw[B1.o];exact C5.o.frame ((Q1.refl (λc=>c=X) w4).setCell rfl _) (λi C=>by omega)),(show Q1 _ _ _ from C6.o.setCell (.inl rfl) _)⟩
  simp[By];omega
 have C7:E<=j:=by omega
 have C8:=D (E.take j=E) (Ao C7);have u:wr.heap[w.heap.size]?=R (Jf (A N 0 0) 0 0 0 (A N 0 0) (A N 0 0) 0):=by rw[HF.o.block _ BJ (by rintro(e|e)<;>omega)];exact HR.o
 have C9:=qh u;obtain⟨⟨r0,r1,r2,r3,r4,r5,r6⟩,CO⟩:=Q2z u;clear u;go_wp2_with fail
 have A0:=Q68 C9 (A q cs P) (A p xs S) (A Y n d) f H J M;have V:=Zx (X:=λc=>c=w) (g:=w) rfl [A q cs P,I Z f,I Z H,I Z J,A p xs S,A Y n d,I Z M] 0 wr;simp only[Yu,Cg,Bj]at A0 V;obtain⟨⟨t0,t1,t2,t3,t4,t5,t6⟩,-⟩:=Q2z A0;refine Ce (v:=.agg #[A q cs P,I Z f,I Z H,I Z J,A p xs S,A Y n d,I Z M]) (by simp[results,results92,go_sem,t0,t1,t2,t3,t4,t5,t6]) rfl ?_;obtain⟨Fc,oc,nc,bc⟩:=s.o.frame V (λi C=>by omega);rw[C8.o]at oc;obtain⟨Fm,CA,nm,r⟩:=BI.o;have CB:=CA.frame HF (λc K=>⟨(r c K).2.1,by
  rintro(e|e)
  ·exact(r c K).2.2 e
  have:=(r c K).2.1;omega⟩)
 have CP:=V.size;have om:=CB.frame V (λc K=>⟨by have:=(r c K).2.1;omega,λe=>by have:=(r c K).1;omega⟩);refine⟨[A q cs P,I Z f,I Z H,I Z J,A p xs S,A Y n d,I Z M],rfl,⟨Fm++Fc,⟨[_,_,_,_,_],[_,_],Fm,Fc,rfl,rfl,om,[_],[_],Fc,[],rfl,by simp,oc,⟨rfl,HI.o,rfl⟩⟩, ?_,λc K=> ?_⟩, ?_⟩
 ·rw[Ba]
  refine⟨nm,nc,λa ha c K e=> ?_⟩;have h4:=(bc c K).1;have h5:=(r a ha).2.1;omega
 ·rcases At0.1 K with K|K
  ·exact⟨by have:=(r c K).1;omega,by have:=(r c K).2.1;omega⟩
  exact⟨by have:=(bc c K).1;omega,(bc c K).2⟩
 exact AT.o.trans ((HF.o.below (by omega) (λi C=>by rcases C with e|e<;>omega)).trans (V.below (by omega) (λi C=>by omega)))
end Go.Proofs.YtcjngpfigpglfaaGreatDoor
