import Derived.Test.YthbpkpnioaniiaaGreatP04
set_option maxHeartbeats 40000000
set_option maxRecDepth 100000
set_option linter.all false
namespace Go.Proofs.YthbpkpnioaniiaaGreat
open Go.RowKit Go.Proofs.Tryz
open Go.Value renaming int->I,slice->A
open Go.IntKind renaming i64->Z
open Option renaming none->N,some->R
open Bool renaming false->Bm
open Go renaming World->Bh,Calls->Bq,maxLen->Bp,TypeId->Cf,Value->Bk,heap_alloc_new->Bg
open Go.Obj renaming cells->Fe
open Go.RowKit renaming intOf->Bv,Below->Bi
open List renaming length_replicate->Ec,length_filter_le->Dx
open Nat renaming reduceAdd->Bj,zero_add->Cd
open Option.some renaming injEq->Bu
theorem Ql0(w:Bh)(b o Y o':Nat)(x y:J9)(G:At Qr w b o x)(H:At Qr w Y o' y):
  Bq prog 52 #[.pointer (R ⟨b,o,N⟩),.pointer (R ⟨Y,o',N⟩)] w λe w'=>e=.returned (.bool (Qqu Qr x y))/\Q0m w w':=by
 obtain⟨r,xs,U⟩:=x;obtain⟨s,ys,V⟩:=y;obtain⟨a,px,cx,⟨t,u⟩,v,⟨-,z,c⟩⟩:=G.pool;obtain⟨d,qx,dx,⟨e5,e6⟩,j6,⟨-,mx,f⟩⟩:=H.pool;unfold Bp at z mx;have J:=qh a;have K:=qh d;have HX:=qh c;have GX:=qh f;clear a d c f G H;by_cases q0:U=V;rotate_left
 ·have g:(U !=V)=true:=by simp[q0]
  have B:=qh q0;clear q0;go_enter func52,ntmps52;go_wp2_with fail
  go_quiet(fail)
  go_wp2;go_ret;exact⟨Zi (by simp[B.o]),⟨_,rfl⟩⟩
 have g:(U !=V)=Bm:=by simp[q0]
 have A0:=qh q0;clear q0;by_cases q1:xs.length=ys.length;rotate_left
 ·have h:((xs.length:Int) !=(ys.length:Int))=true:=by simp;omega
  have B:D (¬xs=ys):=qh (λe=>q1 (by rw[e]));clear q1;go_enter func52,ntmps52;go_wp2_with fail
  go_quiet(fail)
  go_wp2;go_ret;exact⟨Zi (by simp[B.o]),⟨_,rfl⟩⟩
 have h:((xs.length:Int) !=(ys.length:Int))=Bm:=by simp[q1]
 have j:=qh q1;clear q1;by_cases L:r=s;rotate_left
 ·have B:=qh L;clear L
  go_enter func52,ntmps52;go_wp2_with fail
  go_quiet((go_at_call 97;first|exact Yi (Q52 _ _ _ _ _ _ _ (J.o.drewN _) (K.o.drewN _)) (Qr7 (Vh B.o))|exact Yh (Q52 _ _ _ _ _ _ _ (J.o.drewN _) (K.o.drewN _)) (Qr7 (Vh B.o))))
  go_wp2;go_ret;exact⟨Zi (by simp[B.o]),⟨_,rfl⟩⟩
 have W:=qh L;clear L;go_enter func52,ntmps52;go_wp2_with fail
 go_quiet((go_at_call 97;first|exact Yi (Q52 _ _ _ _ _ _ _ (J.o.drewN _) (K.o.drewN _)) (Qr7 (Ju W.o))|exact Yh (Q52 _ _ _ _ _ _ _ (J.o.drewN _) (K.o.drewN _)) (Qr7 (Ju W.o))))
 go_wp2;have A1:D (Q0m w (w.drewN nq)):=qh (⟨_,rfl⟩);generalize w.drewN nq=w0 at *
 clear v j6 u e6 g h;go_loopw [5] (λi wr=>∃k:Nat,k<=xs.length/\i=I Z k/\D (xs.take k=ys.take k)/\D (Q0m w wr)) (λi _=>xs.length-(Bv i).toNat);case atStart=>exact⟨0,Ak _,rfl,rfl,A1⟩
 case round=>
  obtain⟨k,hk,rfl,l,C⟩:=hrel;have cw:=(Am C.o.below).cell _ _ t;have ew:=(Am C.o.below).cell _ _ e5;by_cases M:k<xs.length
  ·have X:k<ys.length:=by rw[<-j.o];exact M
   obtain⟨b1,o1,rfl,O⟩:=Rd.elem (HX.o.drew C.o) k M;obtain⟨b2,o2,rfl,P⟩:=Rd.elem (GX.o.drew C.o) k X;generalize hxk:xs[k]=x at O;generalize hyk:ys[k]=y at P;have m:=qh hxk;have n:=qh hyk;clear hxk hyk;simp only[Ty.sz,Bj]at O P;have S:=qh O;have T:=qh P;clear O P;by_cases E:x=y
   ·have F:=qh E;clear E
    go_wp2_with fail
    go_quiet((go_at_call 98;first|exact Yi (Q2l _ _ _ _ _ _ _ (S.o.drewN _) (T.o.drewN _)) (Qr7 (Ju F.o))|exact Yh (Q2l _ _ _ _ _ _ _ (S.o.drewN _) (T.o.drewN _)) (Qr7 (Ju F.o))))
    go_wp2;go_roundw;case rel=>exact⟨k+1,by omega,by go_num,Yb M X l.o (by rw[m.o,n.o,F.o]),Q0m.more C.o _⟩
    case measure=>simp[Bv];omega
   ·have p:=Y2 M X (by rw[m.o,n.o];exact E)
    have F:=qh p;have q:=qh E;clear E p;go_wp2_with fail
    go_quiet((go_at_call 98;first|exact Yi (Q2l _ _ _ _ _ _ _ (S.o.drewN _) (T.o.drewN _)) (Qr7 (Vh q.o))|exact Yh (Q2l _ _ _ _ _ _ _ (S.o.drewN _) (T.o.drewN _)) (Qr7 (Vh q.o))))
    go_wp2;go_ret;exact⟨Zi (by simp[F.o]),Q0m.more C.o _⟩
  ·have G:xs.length<=k:=by omega
   have H:ys.length<=k:=by rw[<-j.o];omega
   have HN:=qh (Jc l.o G H);go_wp2;go_ret;exact⟨Zi (by simp[A0.o,W.o,HN.o]),C.o⟩
theorem Qm0(w:Bh)(p:Option Addr)(c:Nat)(xs:List J9)(b o:Nat)(y:J9)(h:Rd (.slice Qr) w [A p xs.length c] xs)(U:xs.length<=Bp)(M:At Qr w b o y):
  Bq prog 23 #[A p xs.length c,.pointer (R ⟨b,o,N⟩)] w λe w'=>e=.returned (I Z (Q9z (λx=>Qqu Qr x y) xs))/\Q0m w w':=by
 unfold Bp at U;have H:=qh h;have O:=qh M;clear h M;go_enter func23,ntmps23;go_wp2_with fail
 go_loopw [5] (λi wr=>∃j:Nat,j<=xs.length/\i=I Z j/\D (∀(q:Nat) (B:q<xs.length),q<j->Qqu Qr xs[q] y=Bm)/\D (Q0m w wr)) (λi _=>xs.length-(Bv i).toNat);case atStart=>exact⟨0,Ak _,rfl,λq _ h=>absurd h (Nat.not_lt_zero _),Q0m.refl _⟩
 case round=>
  obtain⟨j,X,rfl,K,C⟩:=hrel;by_cases P:j<xs.length
  ·obtain⟨Y,a,rfl,G⟩:=Rd.elem (H.o.drew C.o) j P
   generalize hx:xs[j]=x at G;have S:=qh hx;clear hx;simp only[Ty.sz,Bj]at G;have T:=qh G;clear G;cases hok:Qqu Qr x y with
   |true=>
    have E:=qh hok;clear hok;go_wp2_with(go_at_call 52;refine(Ql0 _ _ _ _ _ _ _ T.o (O.o.drew C.o)).mono ?_;rintro e w' ⟨rfl,F⟩;rw[E.o];have L:=qh F;clear F)
    go_ret;exact⟨Qm (Qcn (p:=λx=>Qqu Qr x y) P (λq B J=>K.o q B J) (by rw[S.o];exact E.o)).symm,C.o.trans L.o⟩
   |false=>
    have E:=qh hok;clear hok;go_wp2_with(go_at_call 52;refine(Ql0 _ _ _ _ _ _ _ T.o (O.o.drew C.o)).mono ?_;rintro e w' ⟨rfl,F⟩;rw[E.o];have L:=qh F;clear F)
    go_roundw;case rel=>exact⟨j+1,by omega,by go_num,λq B J=>(by
     by_cases V:q=j
     ·subst V;rw[S.o];exact E.o
     ·exact K.o q B (by omega)),C.o.trans L.o⟩
    case measure=>simp[Bv];omega
  ·have W:xs.length<=j:=by omega
   go_wp2;go_ret;exact⟨Qm (Q7x (p:=λx=>Qqu Qr x y) W (λq B J=>K.o q B J)).symm,C.o⟩
def Qrb(t:Cf)(x:Operand):Op:=.load t x
theorem Qpr(t:Cf)(x:Operand):Qrb t x=.load t x:=rfl
theorem Qbf{B:Nat}{a w:Bh}{b o p:Nat}(h:Bi B a w)(C:B<=b)(E v1:Bk):Bi B a ((w.setCell ⟨b,o,N⟩ E).setCell ⟨b,p,N⟩ v1):=(h.setCell C _).setCell C _
theorem Q2q{B:Nat}{a w:Bh}{b o p q r s:Nat}(h:Bi B a w)(C:B<=b)(E v1 F G H:Bk):Bi B a (((((w.setCell ⟨b,o,N⟩ E).setCell ⟨b,p,N⟩ v1).setCell ⟨b,q,N⟩ F).setCell ⟨b,r,N⟩ G).setCell ⟨b,s,N⟩ H):=((((h.setCell C _).setCell C _).setCell C _).setCell C _).setCell C _
theorem Jl{X:Nat->Prop}{a w:Bh}{b o:Nat}(h:Q1 X a w)(B:X b)(C:Bk):Q1 X a (w.setCell ⟨b,o,N⟩ C):=h.setCell B _
theorem V1{X:Nat->Prop}{a w:Bh}{b o p:Nat}(h:Q1 X a w)(B:X b)(C v1:Bk):Q1 X a ((w.setCell ⟨b,o,N⟩ C).setCell ⟨b,p,N⟩ v1):=(h.setCell B _).setCell B _
theorem Q56{X:Nat->Prop}{a w:Bh}{b o p q r:Nat}(h:Q1 X a w)(B:X b)(C v1 E F:Bk):Q1 X a ((((w.setCell ⟨b,o,N⟩ C).setCell ⟨b,p,N⟩ v1).setCell ⟨b,q,N⟩ E).setCell ⟨b,r,N⟩ F):=(((h.setCell B _).setCell B _).setCell B _).setCell B _
theorem Q1c{X:Nat->Prop}{a w:Bh}{b o p q r s:Nat}(h:Q1 X a w)(B:X b)(C v1 E F G:Bk):Q1 X a (((((w.setCell ⟨b,o,N⟩ C).setCell ⟨b,p,N⟩ v1).setCell ⟨b,q,N⟩ E).setCell ⟨b,r,N⟩ F).setCell ⟨b,s,N⟩ G):=((((h.setCell B _).setCell B _).setCell B _).setCell B _).setCell B _
theorem Q22{w:Bh}{b:Nat}{T:Cf}{G H J K L:Bk}(h:w.heap[b]?=R (.cells #[G,H,J,K,L] T (0,0)))(B v1 C E F:Bk):
  (((((w.setCell ⟨b,0,N⟩ B).setCell ⟨b,1,N⟩ v1).setCell ⟨b,2,N⟩ C).setCell ⟨b,3,N⟩ E).setCell ⟨b,4,N⟩ F).heap[b]?=R (.cells #[B,v1,C,E,F] T (0,0)):=by
 have:=V3 [B,v1,C,E,F] 0 w _ h;simp only[Qrf,Cd,Bj]at this;rw[this];simp[Q1n]
theorem Vm{w:Bh}{b:Nat}{T:Cf}{C E:Bk}(h:w.heap[b]?=R (.cells #[C,E] T (0,0)))(B v1:Bk):
  ((w.setCell ⟨b,0,N⟩ B).setCell ⟨b,1,N⟩ v1).heap[b]?=R (.cells #[B,v1] T (0,0)):=by
 have:=V3 [B,v1] 0 w _ h;simp only[Qrf,Cd,Bj]at this;rw[this];simp[Q1n]
theorem Y0{w:Bh}{b:Nat}{T:Cf}{B C E F G:Bk}(h:w.heap[b]?=R (.cells #[B,C,E,F,G] T (0,0))):(w.cell? ⟨b,0,N⟩=R B/\w.cell? ⟨b,1,N⟩=R C/\w.cell? ⟨b,2,N⟩=R E/\w.cell? ⟨b,3,N⟩=R F/\w.cell? ⟨b,4,N⟩=R G)/\∀q,w.frozen? ⟨b,q,N⟩=Bm:=
 ⟨⟨Q8 h rfl,Q8 h rfl,Q8 h rfl,Q8 h rfl,Q8 h rfl⟩,λq=>Q0f.free (T:=T) ⟨_,h⟩ q⟩
theorem Qny{w:Bh}{b:Nat}{T:Cf}{B C E F:Bk}(h:w.heap[b]?=R (.cells #[B,C,E,F] T (0,0))):(w.cell? ⟨b,0,N⟩=R B/\w.cell? ⟨b,1,N⟩=R C/\w.cell? ⟨b,2,N⟩=R E/\w.cell? ⟨b,3,N⟩=R F)/\∀q,w.frozen? ⟨b,q,N⟩=Bm:=
 ⟨⟨Q8 h rfl,Q8 h rfl,Q8 h rfl,Q8 h rfl⟩,λq=>Q0f.free (T:=T) ⟨_,h⟩ q⟩
theorem Za{w:Bh}{b:Nat}{T:Cf}{B C:Bk}(h:w.heap[b]?=R (.cells #[B,C] T (0,0))):(w.cell? ⟨b,0,N⟩=R B/\w.cell? ⟨b,1,N⟩=R C)/\∀q,w.frozen? ⟨b,q,N⟩=Bm:=
 ⟨⟨Q8 h rfl,Q8 h rfl⟩,λq=>Q0f.free (T:=T) ⟨_,h⟩ q⟩
def Zl(cs:List Qb)(p:Wd):Wd:=if V2 (aK (Q7 cs p.1)) (aL (Q7 cs p.1)) (aK (Q7 cs p.2)) (aL (Q7 cs p.2))==2 then(p.2,p.1)else p
def Z4(cs:List Qb)(p:Wd):Int:=Q1v (Z7 (Q7 cs p.1)) (Z7 (Q7 cs p.2))
def Qq9(cs:List Qb)(p:Wd):Prop:=(0<=p.1/\p.1<cs.length)/\(0<=p.2/\p.2<cs.length)
theorem Qpt(w:Bh)(a b:Bk)(T:Cf):(w.alloc (.cells #[a,b] T)).cell? ⟨w.heap.size,0,N⟩=R a/\(w.alloc (.cells #[a,b] T)).cell? ⟨w.heap.size,1,N⟩=R b/\Bi w.heap.size w (w.alloc (.cells #[a,b] T)):=⟨Q8 (Bg w _) rfl,Q8 (Bg w _) rfl,by go_grown⟩
theorem Qes(w:Bh)(b o:Nat)(m:Qqp)(h:At Qo w b o m)(p q:Int)(V:Qq9 (mC m) (p,q)):
  Bq prog 146 #[.pointer (R ⟨b,o,N⟩),.agg #[I Z p,I Z q]] w λe w'=>e=.returned (.tuple #[I Z (Zl (mC m) (p,q)).1,I Z (Zl (mC m) (p,q)).2])/\Bi w.heap.size w w':=by
 obtain⟨cs,f,⟨i,j⟩,xs⟩:=m;obtain⟨n,r,_,_,⟨E,-,-,-,-⟩,-,⟨s,W,F⟩,-⟩:=h.mem;obtain⟨⟨t,u⟩,⟨q0,q1⟩⟩:(0<=p/\p<cs.length)/\(0<=q/\q<cs.length):=V;have K:p.toNat<cs.length:=by omega
 have L:q.toNat<cs.length:=by omega
 obtain⟨z,o1,rfl,M⟩:=Rd.elem F p.toNat K;obtain⟨b2,o2,O,P⟩:=Rd.elem F q.toNat L;simp only[Bu,Addr.mk.injEq,and_true]at O;obtain⟨rfl,rfl⟩:=O;have S:D (Zl cs (p,q)=if V2 (aK cs[p.toNat]) (aL cs[p.toNat]) (aK cs[q.toNat]) (aL cs[q.toNat])==2 then(q,p)else(p,q)):=by show Zl cs (p,q)=_;simp only[Zl,Q7,Qx K,Qx L]
 generalize cs[p.toNat]=x at *
 generalize cs[q.toNat]=y at *
 obtain⟨k,l,v,d,ws⟩:=x;obtain⟨T,U,v',d',A0⟩:=y;obtain⟨_,_,_,_,⟨C,G,-,-,-⟩,-,-,-⟩:=M.agent;obtain⟨_,_,_,_,⟨H,J,-,-,-⟩,-,-,-⟩:=P.agent;simp only[Ty.sz,Bj]at C G H J;have X:D (Zl cs (p,q)=if V2 k l T U==2 then(q,p)else(p,q)):=S.o;clear M P S h F;unfold Bp at W;have Y:=Ac w _ E;have a:=Ac w _ C;simp only at Y a;show Bq _ _ _ _ λe w'=>e=.returned (.tuple #[I Z (Zl cs (p,q)).1,I Z (Zl cs (p,q)).2])/\_;cases qq:(V2 k l T U==2)
 all_goals
  have c:=qh qq;go_enter func146,ntmps146;go_wp2_with fail
  obtain⟨m0,m1,B⟩:=Qpt w (I Z p) (I Z q) 117;have g:=qh B;generalize w.alloc (Fe #[I Z p,I Z q] 117)=W1 at *
  have A1:=(Am B).cell _ _ E;have A2:=(Am B).cell _ _ C;have A3:=(Am B).cell _ _ G;have A4:=(Am B).cell _ _ H;have A5:=(Am B).cell _ _ J;clear B E C G H J;go_quiet(fail)
  go_wp2;go_quiet(fail)
  go_wp2;go_quiet((go_at_call 187;first|exact Yi (Qqc (Qh1 _ _ _ _ _)) (rfl)|exact Yh (Qqc (Qh1 _ _ _ _ _)) (rfl)))
  go_wp2;go_quiet(fail)
  go_wp2;go_ret2
  refine⟨?_, ?_⟩
  ·rw[X.o,c.o];rfl
  ·exact Q6 (Q6 (Q6 (Q6 g.o _) _) _) _
theorem Qqj{w:Bh}{b:Nat}{B C E F G:Bk}(h:w.heap[b]?=R (.cells #[B,C,E,F,G] 128 (0,0))):(w.cell? ⟨b,0,N⟩=R B/\w.cell? ⟨b,1,N⟩=R C/\w.cell? ⟨b,2,N⟩=R E/\w.cell? ⟨b,3,N⟩=R F/\w.cell? ⟨b,4,N⟩=R G)/\∀q,w.frozen? ⟨b,q,N⟩=Bm:=
 ⟨⟨Q8 h rfl,Q8 h rfl,Q8 h rfl,Q8 h rfl,Q8 h rfl⟩,λq=>Q0f.free (T:=128) ⟨_,h⟩ q⟩
theorem At.ofAg{w:Bh}{b:Nat}{k l v:Int}{C E:Option Addr}{F G n:Nat}{d:List Int}{us:List Wd}(h:w.heap[b]?=R (.cells #[I Z k,I Z l,I Z v,A C d.length F,A E n G] 128 (0,0)))(B:Qqm k/\Qqm l/\Qqm v)
  (H:Rd (.slice .int) w [A C d.length F] d) (J:Rd (.slice Q4) w [A E n G] us):At Q3 w b 0 (k,l,v,d,us):=
 ⟨_,rfl,Q11 (Q8 h rfl) (Q8 h rfl) (Q8 h rfl) (Q8 h rfl) (Q8 h rfl),[_],_,rfl,⟨rfl,B.1⟩,[_],_,rfl,⟨rfl,B.2.1⟩,[_],_,rfl,⟨rfl,B.2.2⟩,[_],[_],rfl,H,J⟩
theorem Qd2(w:Bh)(b o:Nat)(m:Qqp)(h:At Qo w b o m)(p q:Int)(hp:Qq9 (mC m) (p,q))(O:(aW (Q7 (mC m) p)).length<=100000000)(P:(aW (Q7 (mC m) q)).length<=100000000):
  Bq prog 142 #[.pointer (R ⟨b,o,N⟩),.agg #[I Z p,I Z q]] w λe w'=>e=.returned (I Z (Z4 (mC m) (p,q)))/\Bi w.heap.size w w':=by
 obtain⟨cs,f,⟨rt,ra⟩,xs⟩:=m;obtain⟨pc,cc,_,_,⟨T,-,-,-,-⟩,-,⟨hc,hm,U⟩,-⟩:=h.mem;obtain⟨⟨p0,p1⟩,⟨q0,q1⟩⟩:(0<=p/\p<cs.length)/\(0<=q/\q<cs.length):=hp;have V:p.toNat<cs.length:=by omega
 have W:q.toNat<cs.length:=by omega
 obtain⟨b1,o1,rfl,a⟩:=Rd.elem U p.toNat V;obtain⟨b2,o2,A0,g⟩:=Rd.elem U q.toNat W;simp only[Bu,Addr.mk.injEq,and_true]at A0;obtain⟨rfl,rfl⟩:=A0;have HV:D (Z4 cs (p,q)=Q1v (Z7 cs[p.toNat]) (Z7 cs[q.toNat])):=by show Z4 cs (p,q)=_;simp only[Z4,Q7,Qx V,Qx W]
 have O:(aW cs[p.toNat]).length<=100000000:=by have:(aW (Q7 cs p)).length<=100000000:=O;rwa [Q7,Qx V]at this
 have P:(aW cs[q.toNat]).length<=100000000:=by have:(aW (Q7 cs q)).length<=100000000:=P;rwa [Q7,Qx W]at this
 generalize cs[p.toNat]=x at *
 generalize cs[q.toNat]=y at *
 obtain⟨k,l,v,d,ws⟩:=x;obtain⟨k',l',v',d',A1⟩:=y;simp only[Ty.sz,Bj]at a g;have HA:=qh a;have HE:=qh g;have A9:D (ws.length<=100000000):=qh (O);have AA:D (A1.length<=100000000):=qh (P);clear a g h U O P;unfold Bp at hm;have AB:=Ac w _ T;simp only at AB;show Bq _ _ _ _ λe w'=>e=.returned (I Z (Z4 cs (p,q)))/\_;go_enter func142,ntmps142;go_upto_region 1 with fail
 obtain⟨j,n,K⟩:=Qpt w (I Z p) (I Z q) 117;have HB:=qh K;have AM:w.heap.size<(w.alloc (Fe #[I Z p,I Z q] 117)).heap.size:=by rw[Be];omega
 generalize w.alloc (Fe #[I Z p,I Z q] 117)=W1 at *
 have r:=(Am K).cell _ _ T;have s:=qh (HA.o.kept (Am K));have t:=qh (HE.o.kept (Am K));obtain⟨pd,cd,_,_,⟨-,-,-,a3,-⟩,-,⟨-,-,A2⟩,-⟩:=s.o.agent;obtain⟨AC,AD,_,_,⟨-,-,-,e3,-⟩,-,⟨-,-,A3⟩,-⟩:=t.o.agent;have A4:=qh a3;have A5:=qh e3;have u:=qh A2;have A6:=qh A3;clear K T HA HE a3 e3 A2 A3;have S:D (((W1.alloc (.cells #[I Z 0,I Z 0,I Z 0,A N 0 0,A N 0 0] 128)).drew).heap[W1.heap.size]?=R (.cells #[I Z 0,I Z 0,I Z 0,A N 0 0,A N 0 0] 128 (0,0))):=qh (Bg W1 _);go_cut [5] (λx L=>∃(X:Nat),x=.pointer (R ⟨X,0,N⟩)/\D (At Q3 L X 0 (Z7 (k,l,v,d,ws)))/\D (Bi W1.heap.size W1 L))
 case first=>
  go_region_held3(λw'=>w'.cell? ⟨b,o,N⟩=R (A (R ⟨b1,o1,N⟩) cs.length cc)/\w'.cell? ⟨w.heap.size,0,N⟩=R (I Z p)/\w'.cell? ⟨w.heap.size,1,N⟩=R (I Z q))
   ((refine Q9c (w:=W1) ?_ r j n;first|with_reducible exact B.o|with_reducible exact B.o.alloc B.o.size _|with_reducible exact Q2q B.o (Aj _) _ _ _ _ _|go_grown))
   ((go_at_call 183;go_loud(refine(Q6b _ _ _ _ _ _ _ _ (s.o.kept (Am (w:=W1) (by go_grown))) A9.o pd cd ((Am (w:=W1) (by go_grown)).cell _ _ A4.o)).mono ?_;rintro e w2 ⟨pu,cu,rfl,C,G,E⟩;have M:=qh C;rw[Ec]at G;have H:=qh G;have B:D (Bi W1.heap.size W1 w2):=qh (Q0 (by go_grown) E);have AE:=qh E;(first|((with_reducible have J:=Qe S.o E);obtain⟨⟨z0,z1,z2,z3,z4⟩,AF⟩:=Qqj J;have z:=qh J;clear J)|skip);clear C G E)))
  all_goals(go_wp2_with fail;go_meet)
  ·exact⟨_,rfl,(show At _ _ _ _ _ from At.ofAg (Bg w2 _) M.o (u.o.kept (Am (B.o.alloc B.o.size _))) ((H.o.kept (by go_grown)).rd rfl)),(show Bi _ _ _ from B.o.alloc B.o.size _)⟩
  ·exact⟨_,rfl,(show At _ _ _ _ _ from At.ofAg (Q22 z.o _ _ _ _ _) M.o (u.o.kept (Am (Q2q B.o (Aj _) _ _ _ _ _))) ((H.o.frame (Q1c (Q1.refl (λc=>c=W1.heap.size) w2) rfl _ _ _ _ _) (λi C e=>by have:=(H.o.block i C).1;simp at this;omega)).rd rfl)),(show Bi _ _ _ from Q2q B.o (Aj _) _ _ _ _ _)⟩
 case rest=>
  obtain⟨X,rfl,HX,F⟩:=hcut;have AN:=F.o.size;have AG:=(Am F.o).cell _ _ r;have AH:=(Am F.o).cell _ _ j;have AI:=(Am F.o).cell _ _ n;have AJ:=qh (t.o.kept (Am F.o));have AK:=qh ((Am F.o).cell _ _ A5.o);have A7:=qh (A6.o.kept (Am F.o));clear r j n t A5 A6 S s A4 u;have S:D (((wc.alloc (.cells #[I Z 0,I Z 0,I Z 0,A N 0 0,A N 0 0] 128)).drew).heap[wc.heap.size]?=R (.cells #[I Z 0,I Z 0,I Z 0,A N 0 0,A N 0 0] 128 (0,0))):=qh (Bg wc _);go_upto_region 2 with fail
  go_cut [6] (λx L=>∃(Y:Nat),x=.pointer (R ⟨Y,0,N⟩)/\D (At Q3 L Y 0 (Z7 (k',l',v',d',A1)))/\D (Bi wc.heap.size wc L))
  case first=>
   go_region_held3(λw'=>w'.cell? ⟨b,o,N⟩=R (A (R ⟨b1,o1,N⟩) cs.length cc)/\w'.cell? ⟨w.heap.size,0,N⟩=R (I Z p)/\w'.cell? ⟨w.heap.size,1,N⟩=R (I Z q))
    ((refine Q9c (w:=wc) ?_ AG AH AI;first|with_reducible exact B.o|with_reducible exact B.o.alloc B.o.size _|with_reducible exact Q2q B.o (Aj _) _ _ _ _ _|go_grown))
    ((go_at_call 183;refine(Q6b _ _ _ _ _ _ _ _ (AJ.o.kept (Am (w:=wc) (by go_grown))) AA.o AC AD ((Am (w:=wc) (by go_grown)).cell _ _ AK.o)).mono ?_;rintro e w2 ⟨pu,cu,rfl,C,G,E⟩;have M:=qh C;rw[Ec]at G;have H:=qh G;have B:D (Bi wc.heap.size wc w2):=qh (Q0 (by go_grown) E);have AE:=qh E;(first|((with_reducible have J:=Qe S.o E);obtain⟨⟨z0,z1,z2,z3,z4⟩,AF⟩:=Qqj J;have z:=qh J;clear J)|skip);clear C G E))
   all_goals(go_wp2_with fail;go_meet)
   ·exact⟨_,rfl,(show At _ _ _ _ _ from At.ofAg (Bg w2 _) M.o (A7.o.kept (Am (B.o.alloc B.o.size _))) ((H.o.kept (by go_grown)).rd rfl)),(show Bi _ _ _ from B.o.alloc B.o.size _)⟩
   ·exact⟨_,rfl,(show At _ _ _ _ _ from At.ofAg (Q22 z.o _ _ _ _ _) M.o (A7.o.kept (Am (Q2q B.o (Aj _) _ _ _ _ _))) ((H.o.frame (Q1c (Q1.refl (λc=>c=wc.heap.size) w2) rfl _ _ _ _ _) (λi C e=>by have:=(H.o.block i C).1;simp at this;omega)).rd rfl)),(show Bi _ _ _ from Q2q B.o (Aj _) _ _ _ _ _)⟩
  case rest=>
   obtain⟨Y,rfl,HY,A8⟩:=hcut;rename Bh=>wd
   go_wp2_with(go_at_call 184;refine(Qna _ _ _ _ _ _ _ _ _ _ _ _ _ _ _ (HX.o.kept (Am A8.o)) HY.o).mono ?_;rintro e w3 ⟨rfl,hd⟩;have AL:=qh hd;clear hd)
   go_ret;exact⟨Qm (by rw[HV.o];rfl),Q0 (Q0 (Q0 HB.o F.o) A8.o) AL.o.below⟩
def xM(cs:List Qb)(p:Wd):Qb:=Q7 cs (Zl cs p).1
def yM(cs:List Qb)(p:Wd):Qb:=Q7 cs (Zl cs p).2
def Y4(bk:List Qr2)(v:Int):Qr2:=bk.getD v.toNat []
def Zn(bk:List Qr2)(cs:List Qb)(p:Wd):Int×Int:=
 if Z4 cs p==8 then(0,11)
 else if Z4 cs p==3 then(2+3 * ((aW (yM cs p)).length:Int),0)
 else if Z4 cs p==4 then(((aW (yM cs p)).length:Int),0)
 else if Z4 cs p==5 then(1,0)
 else if Z4 cs p==6 then(1+((aW (xM cs p)).length:Int),0)
 else if Z4 cs p==7 then
  (if(bk.length:Int)<=aV (xM cs p)then(0,3)
   else if 8<V6 (Y4 bk (aV (xM cs p)))+aL (xM cs p)then(0,9)
   else(((Y4 bk (aV (xM cs p))).length:Int)-1+((Zv (Y4 bk (aV (xM cs p)))).length:Int),0))
 else(0,0)
def Qbv(n:Qr2):Prop:=n.length<=1000000/\(Qs n).length<=10000000/\0<=V6 n/\V6 n<=1000
theorem Q63{n:Qr2}(h:Qbv n):(Zv n).length<=10000000:=by
 refine Au ?_ h.2.1;unfold Zv Yk;refine Au (Dx _ _) ?_;rw[List.length_map];exact Dx _ _
theorem Qkq(w:Bh)(p0:Option Addr)(A1:Nat)(bk:List Qr2)(b o:Nat)(m:Qqp)(A2:Rd (.slice Je) w [A p0 bk.length A1] bk)(AA:bk.length<=Bp)(h:At Qo w b o m)(p q:Int)(O:Qq9 (mC m) (p,q))
  (P:(aW (Q7 (mC m) p)).length<=100000000) (S:(aW (Q7 (mC m) q)).length<=100000000) (hx:Z4 (mC m) (p,q)=7->0<=aV (xM (mC m) (p,q))/\0<=aL (xM (mC m) (p,q))/\aL (xM (mC m) (p,q))<=1000) (A3:∀n∈bk,Qbv n):
  Bq prog 143 #[A p0 bk.length A1,.pointer (R ⟨b,o,N⟩),.agg #[I Z p,I Z q]] w λe w'=>e=.returned (.tuple #[I Z (Zn bk (mC m) (p,q)).1,I Z (Zn bk (mC m) (p,q)).2])/\Bi w.heap.size w w':=by
 have H:=qh h;have A4:=qh A2;have HP:=qh O;have AM:=qh P;have AN:=qh S;have AB:=qh A3;obtain⟨cs,f,⟨rt,ra⟩,xs⟩:=m;obtain⟨pc,cc,_,_,⟨g,-,-,-,-⟩,-,⟨hc,hm,i⟩,-⟩:=h.mem;have T:Qq9 cs (p,q):=O;have A5:Z4 cs (p,q)=7->0<=aV (xM cs (p,q))/\0<=aL (xM cs (p,q))/\aL (xM cs (p,q))<=1000:=hx;have j:(aW (Q7 cs p)).length<=100000000:=P;have r:(aW (Q7 cs q)).length<=100000000:=S;have AC:Qq9 cs (Zl cs (p,q)):=by
  unfold Zl;split
  ·exact⟨T.2,T.1⟩
  ·exact T
 have A6:(aW (xM cs (p,q))).length<=100000000/\(aW (yM cs (p,q))).length<=100000000:=by
  unfold xM yM Zl;split
  ·exact⟨r,j⟩
  ·exact⟨j,r⟩
 have E:D (Zn bk cs (p,q)=if Z4 cs (p,q)==8 then(0,11)
  else if Z4 cs (p,q)==3 then(2+3 * ((aW (yM cs (p,q))).length:Int),0)
  else if Z4 cs (p,q)==4 then(((aW (yM cs (p,q))).length:Int),0)
  else if Z4 cs (p,q)==5 then(1,0)
  else if Z4 cs (p,q)==6 then(1+((aW (xM cs (p,q))).length:Int),0)
  else if Z4 cs (p,q)==7 then
   (if(bk.length:Int)<=aV (xM cs (p,q))then(0,3)
    else if 8<V6 (Y4 bk (aV (xM cs (p,q))))+aL (xM cs (p,q))then(0,9)
    else(((Y4 bk (aV (xM cs (p,q)))).length:Int)-1+((Zv (Y4 bk (aV (xM cs (p,q))))).length:Int),0))
  else(0,0)):=by show _=_;rfl
 show Bq _ _ _ _ λe w'=>e=.returned (.tuple #[I Z (Zn bk cs (p,q)).1,I Z (Zn bk cs (p,q)).2])/\_;have HF:D (Zl cs (p,q)=((Zl cs (p,q)).1,(Zl cs (p,q)).2)):=by show _=_;rfl
 have U:xM cs (p,q)=Q7 cs (Zl cs (p,q)).1:=rfl;have V:yM cs (p,q)=Q7 cs (Zl cs (p,q)).2:=rfl;have AD:D (Z4 cs (p,q)=Z4 cs (p,q)):=by show _=_;rfl
 have AE:D (∀w',At Qo w' b o (cs,f,(rt,ra),xs)->Bq prog 146 #[.pointer (R ⟨b,o,N⟩),.agg #[I Z p,I Z q]] w' λe s=>e=.returned (.tuple #[I Z (Zl cs (p,q)).1,I Z (Zl cs (p,q)).2])/\Bi w'.heap.size w' s):=qh (λw' t=>Qes w' b o _ t p q O);have AF:D (∀w',At Qo w' b o (cs,f,(rt,ra),xs)->Bq prog 142 #[.pointer (R ⟨b,o,N⟩),.agg #[I Z p,I Z q]] w' λe s=>e=.returned (I Z (Z4 cs (p,q)))/\Bi w'.heap.size w' s):=qh (λw' t=>Qd2 w' b o _ t p q O P S);generalize Zn bk cs (p,q)=CM at *
 generalize Z4 cs (p,q)=C at *
 generalize Zl cs (p,q)=F at *
 obtain⟨f1,f2⟩:=F;obtain⟨⟨g0,g1⟩,⟨g2,g3⟩⟩:=AC;simp only at g0 g1 g2 g3 U V;have u:f1.toNat<cs.length:=by omega
 have z:f2.toNat<cs.length:=by omega
 rw[Q7,Qx u]at U;rw[Q7,Qx z]at V;generalize xM cs (p,q)=x at *
 generalize yM cs (p,q)=y at *
 obtain⟨b1,o1,rfl,hA⟩:=Rd.elem i f1.toNat u;obtain⟨b2,o2,W,hE⟩:=Rd.elem i f2.toNat z;simp only[Bu,Addr.mk.injEq,and_true]at W;obtain⟨rfl,rfl⟩:=W;rw[<-U]at hA;rw[<-V]at hE;clear U V;obtain⟨k,l,v,d,ws⟩:=x;obtain⟨k',l',v',d',AO⟩:=y;simp only[aW,aV,aL]at A5 A6 E;obtain⟨_,_,_,_,⟨-,X,a2,-,a4⟩,⟨-,il,iv⟩,-,-⟩:=hA.agent;obtain⟨_,_,_,_,⟨-,-,-,-,e4⟩,-,-,-⟩:=hE.agent;simp only[Ty.sz,Bj]at X a2 a4 e4;have iv:=iv.bd;obtain⟨AP,AQ⟩:=A6;have AG:=Ac w _ g;have AH:=Ac w _ X;simp only at AG AH;clear hA hE h A2 O P S hx i T j r HF AD A3 u z;unfold Bp at hm AA;go_enter func143,ntmps143;go_upto_region 1 with fail
 obtain⟨m0,m1,hB⟩:=Qpt w (I Z p) (I Z q) 117;have Y:=qh hB;have AR:w.heap.size<(w.alloc (Fe #[I Z p,I Z q] 117)).heap.size:=by rw[Be];omega
 generalize w.alloc (Fe #[I Z p,I Z q] 117)=W1 at *
 clear hB;go_upto_region 5 with(first|(go_at_call 146;refine(AE.o _ (H.o.kept (Am Y.o))).mono ?_;rintro e w1 ⟨rfl,G⟩;have A7:=qh G;have AI:=(Am (Q0 Y.o G)).cell _ _ g;have AJ:=(Am G).cell _ _ m0;have AK:=(Am G).cell _ _ m1;clear G)|(go_at_call 142;refine(AF.o _ (H.o.kept (Am (Q0 Y.o A7.o)))).mono ?_;rintro e w2 ⟨rfl,G⟩;have B:D (Bi w.heap.size w w2):=qh (Q0 (Q0 Y.o A7.o) G);clear G))
 have X:=(Am B.o).cell _ _ X;have a2:=(Am B.o).cell _ _ a2;have a4:=(Am B.o).cell _ _ a4;have e4:=(Am B.o).cell _ _ e4;clear g m0 m1 AI AJ AK;by_cases q8:C=8
 ·subst q8
  go_wp2_with fail
  go_ret2
  exact⟨by rw[E.o];rfl,B.o⟩
 by_cases q3:C=3
 ·subst q3
  go_wp2_with fail
  go_ret2
  exact⟨by rw[E.o];rfl,B.o⟩
 by_cases q4:C=4
 ·subst q4
  go_wp2_with fail
  go_ret2
  exact⟨by rw[E.o];rfl,B.o⟩
 by_cases q5:C=5
 ·subst q5
  go_wp2_with fail
  go_ret2
  exact⟨by rw[E.o];rfl,B.o⟩
 by_cases q6:C=6
 ·subst q6
  go_wp2_with fail
  go_ret2
  exact⟨by rw[E.o];rfl,B.o⟩
 by_cases q7:C=7
 ·subst q7
  obtain⟨x1,x2,x3⟩:=A5 rfl;by_cases J:(bk.length:Int)<=v
  ·have tn:decide ((bk.length:Int)<=v)=true:=by simpa using J
   have K:D (CM=(0,3)):=qh (by rw[E.o];show(if(bk.length:Int)<=v then _ else _)=_;rw[if_pos J]);go_wp2_with fail
   go_ret2
   exact⟨by rw[K.o];rfl,B.o⟩
  have tn:decide ((bk.length:Int)<=v)=Bm:=by simpa using J
  have A0:v.toNat<bk.length:=by omega
  have AS:v<(bk.length:Int):=by omega
  obtain⟨bb,ob,rfl,hN⟩:=Rd.elem A4.o v.toNat A0;have a:=qh (AB.o _ (As A0));have A8:D (Y4 bk v=bk[v.toNat]):=qh (by simp[Y4,List.getD_eq_getElem?_getD,A0]);generalize bk[v.toNat]=n at *
  simp only[Ty.sz,Nat.mul_one]at hN;have L:=qh (hN.kept (Am B.o));obtain⟨pn,cn,c,-,-,-⟩:=L.o.net;obtain⟨AT,Qqd,Qqq,AU⟩:=a.o;clear hN A4;have W:=Ac w2 _ c;simp only at W;have AV:IntKind.i64.wrap (V6 n+l)=V6 n+l:=IntWalk.i64_in _ (by omega);have AW:=Q63 a.o;by_cases M:8<V6 n+l
  ·have t9:decide (8<V6 n+l)=true:=by simpa using M
   have K:D (CM=(0,9)):=qh (by rw[E.o];show(if(bk.length:Int)<=v then((0:Int),(3:Int))else if 8<V6 (Y4 bk v)+l then(0,9)else(((Y4 bk v).length:Int)-1+((Zv (Y4 bk v)).length:Int),0))=_;rw[if_neg J,A8.o,if_pos M]);clear M J;go_wp2_with fail
   go_quiet((go_at_call 185;first|exact Yi (Qqc (Q50 _ _ _ _ (L.o.drewN _))) (rfl)|exact Yh (Qqc (Q50 _ _ _ _ (L.o.drewN _))) (rfl)))
   go_wp2;go_ret2
   exact⟨by rw[K.o];rfl,Q6 B.o _⟩
  ·have t9:decide (8<V6 n+l)=Bm:=by simpa using M
   have K:D (CM=(((n.length:Int)-1+((Zv n).length:Int)),0)):=qh (by rw[E.o];show(if(bk.length:Int)<=v then((0:Int),(3:Int))else if 8<V6 (Y4 bk v)+l then(0,9)else(((Y4 bk v).length:Int)-1+((Zv (Y4 bk v)).length:Int),0))=_;rw[if_neg J,A8.o,if_neg M]);clear M J;go_wp2_with fail
   go_quiet((go_at_call 185;first|exact Yi (Qqc (Q50 _ _ _ _ (L.o.drewN _))) (rfl)|exact Yh (Qqc (Q50 _ _ _ _ (L.o.drewN _))) (rfl)))
   go_wp2;have AL:=qh (Q6 B.o nq);have A9:=qh (L.o.drewN nq);generalize w2.drewN nq=w3 at *
   clear L c;obtain⟨pn,cn,c,-,-,-⟩:=A9.o.net;have AX:IntKind.i64.wrap ((n.length:Int)-1)=(n.length:Int)-1:=IntWalk.i64_in _ (by omega);have AY:IntKind.i64.wrap ((n.length:Int)-1+((Zv n).length:Nat))=(n.length:Int)-1+((Zv n).length:Nat):=IntWalk.i64_in _ (by omega);(refine Z0 (λw'=>Bi w3.heap.size w3 w') (by kernel_rfl) (by kernel_rfl) (Ai _ _).drew ?_;(repeat(first|go_big_quiet_skip|(go_big_quiet_want;apply Exists.intro;refine⟨λw' hC=> ?_, ?_⟩;(focus(have AZ:=(Am hC).cell _ _ c;go_simp;first|done|with_reducible rfl|(exact(Qo2 _ _ _ _ (A9.o.kept (Am hC)) a.o.1 a.o.2.1).mono λe w4 ⟨he,hb⟩=>⟨by rw[he],Q0 hC hb⟩)));simp only[Act.put,List.setIfInBounds_toArray,List.set_cons_zero,List.set_cons_succ];go_big_quiet_on)));refine wpQuiet_nil ?_;intro wz hz)
   go_wp2;go_ret2
   exact⟨by rw[K.o];rfl,Q0 AL.o hz⟩
 ·have t8:(C==8)=Bm:=by simpa using q8
  have t3:(C==3)=Bm:=by simpa using q3
  have t4:(C==4)=Bm:=by simpa using q4
  have t5:(C==5)=Bm:=by simpa using q5
  have t6:(C==6)=Bm:=by simpa using q6
  have t7:(C==7)=Bm:=by simpa using q7
  have K:D (CM=(0,0)):=qh (by rw[E.o,t8,t3,t4,t5,t6,t7];rfl);go_wp2_with fail
  go_ret2
  exact⟨by rw[K.o];rfl,B.o⟩
abbrev Qcz(w:Bh)(b o:Nat)(v0 v1 v2 v3 v4:Bk):Bh:=((((w.setCell ⟨b,o,N⟩ v0).setCell ⟨b,o+1,N⟩ v1).setCell ⟨b,o+2,N⟩ v2).setCell ⟨b,o+3,N⟩ v3).setCell ⟨b,o+4,N⟩ v4
theorem Qnn(w:Bh)(b o:Nat)(B v1 C E F:Bk):Qcz w b o B v1 C E F=Qrf w b o [B,v1,C,E,F]:=rfl
theorem Ze(w:Bh)(b o:Nat)(v:Bk):Q1 (λc=>c=b) w (w.setCell ⟨b,o,N⟩ v):=Q1.setCell (p:=⟨b,o,N⟩) (Q1.refl (λc=>c=b) w) rfl v
theorem Vz(w:Bh)(b o:Nat)(B v1 C E F:Bk):Q1 (λc=>c=b) w (Qcz w b o B v1 C E F):=Q1c (X:=λc=>c=b) (Q1.refl _ w) rfl B v1 C E F
theorem Qqw.put{w:Bh}{g o:Nat}{B:Array Bk}{T:Cf}{fr:Nat×Nat}{vs:List Bk}(h:w.heap[g]?=R (.cells B T fr))(C:o+vs.length<=B.size):Qqw (Qrf w g o vs) g o vs:=by
 have E:=V3 vs o w B h;have:=Q58 E o vs.length (by rw[Q46];exact C);rwa [Q5y C]at this
theorem Q9.put{g:Nat}:∀(vs:List Bk) (o:Nat) (B n:Nat) (a w:Bh),Q9 g B n a w->B<=o->o+vs.length<=B+n->Q9 g B n a (Qrf w g o vs)
 | [],_,_,_,_,_,h,_,_=>h
 |v::r,o,B,n,a,w,h,h1,h2=>by simp only[List.length_cons]at h2;exact Q9.put r (o+1) B n a _ (h.set o ⟨h1,by omega⟩ v) (by omega) (by omega)
theorem Q9.put5(w:Bh)(b o:Nat)(B v1 C E F:Bk):Q9 b o 5 w (Qcz w b o B v1 C E F):=Q9.put [B,v1,C,E,F] o o 5 w w (Q9.refl _ _ _ _) (Aj _) (by simp)
theorem Q9.drew{b B n:Nat}{a w:Bh}(h:Q9 b B n a w):Q9 b B n a w.drew:=λc T C=>h c T C
section
variable {w:Bh} {pb po:Nat} {m:Qqp} {S:MS}
theorem Z8.ne(h:Z8 w pb po m S):pb≠S.cb/\S.cb≠pb:=by
 have:=Ar.1 h.nodup;exact⟨λe=>this.1 (e▸Ae),λe=>this.1 (e▸Ae)⟩
theorem Z8.room(h:Z8 w pb po m S){i:Int}(E:i.toNat<(mC m).length):∃B T,w.heap[S.cb]?=R (.cells B T (0,0))/\S.o+i.toNat * 5+5<=B.size:=by
 obtain⟨B,T,C,F,G,H,_⟩:=h.cells;exact⟨B,T,C,by omega⟩
theorem Z8.fr5(h:Z8 w pb po m S)(q:Nat)(B v1 C E F:Bk):Q1 (λc=>c=pb\/c=S.cb) w (Qcz w S.cb q B v1 C E F):=Q1c (Q1.refl _ _) (.inr rfl) _ _ _ _ _
theorem Ow.two{t:Ty}{vs:List Bk}{x:t.den}{G:List Nat}{w':Bh}(C:Ow t w vs x G)(h:Q1 (λc=>c=pb\/c=S.cb) w w')(E:∀b∈G,b∉pb::S.all):Ow t w' vs x G:=
 C.frame h λb B=>⟨C.lt b B,by
  rintro(e|e)
  ·exact E b B (e▸Ae)
  ·exact E b B (e▸Aa _ Ae)⟩
theorem Z8.put5(h:Z8 w pb po m S){i:Int}(H:i.toNat<(mC m).length){B v1 C E F:Bk}{y:Qb}{G:List Nat}{f:Int}(P:Qqm f)(U:Ow Q3 w [B,v1,C,E,F] y G)(V:G.Nodup)(J:∀b∈G,b∉pb::S.all):
  Z8 ((Qcz w S.cb (S.o+i.toNat * 5) B v1 C E F).setCell ⟨pb,po+1,N⟩ (I Z f)) pb po ((mC m).set i.toNat y,f,mR m,mX m) (S.put i G):=by
 obtain⟨K,L⟩:=h.ne;obtain⟨g,T,W,X⟩:=h.room H;obtain⟨_,_,_,Y,_⟩:=h.head;have f1:=h.fr5 (S.o+i.toNat * 5) B v1 C E F;have M:Q1 (λc=>c=S.cb) w (Qcz w S.cb (S.o+i.toNat * 5) B v1 C E F):=Vz _ _ _ _ _ _ _ _;have f2:Q1 (λc=>c=pb) (Qcz w S.cb (S.o+i.toNat * 5) B v1 C E F) ((Qcz w S.cb (S.o+i.toNat * 5) B v1 C E F).setCell ⟨pb,po+1,N⟩ (I Z f)):=Ze _ _ _ _;have O:Q1 (λc=>c=pb\/c=S.cb) w ((Qcz w S.cb (S.o+i.toNat * 5) B v1 C E F).setCell ⟨pb,po+1,N⟩ (I Z f)):=f1.setCell (.inl rfl) _;have j:=h.cells.blk.lt;have k:=f1.size;refine h.turn H (us':=[B,v1,C,E,F]) (O.mono λc a=>a.elim .inl λe=> .inr (.inl e)) ((Q9.put5 w S.cb _ B v1 C E F).fr f2 L) ((Qqw.put (vs:=[B,v1,C,E,F]) W (by simpa using X)).frame (by rw[<-Qnn];omega) f2 L) (U.two O J) V (λb d=> .inr (J b d)) ((Q9.of_frame M K _ _).set (po+1) (by omega) _) ?_ P;refine World.cell?_setCell_same _ _ _ (?_:World.cell? _ _=R (I Z (mF m)));rw[M.cell h.blk.lt K];exact Y
theorem Z8.putF(h:Z8 w pb po m S){f:Int}(H:Qqm f):Z8 (w.setCell ⟨pb,po+1,N⟩ (I Z f)) pb po (mC m,f,mR m,mX m) S:=by
 have J:=h;have F:=Ar.1 h.nodup;obtain⟨px,cx,C,K,c,L,M,O,G,P⟩:=h;have f1:=Ze w pb (po+1) (I Z f);have E:Q9 pb (po+1) 1 w (w.setCell ⟨pb,po+1,N⟩ (I Z f)):=(Q9.refl _ _ _ _).set (po+1) (by omega) _;refine⟨px,cx,C.keep E, ?_,H,L,M,O.frame f1 λb B e=> ?_,G.frame f1 λb B=>⟨G.lt b B,λe=> ?_⟩,P⟩
 ·obtain⟨T,U⟩:=Qqw.app (v1:=[_]) K
  obtain⟨V,W⟩:=Qqw.app (v1:=[_]) U;have X:=T.keep C E (by simp);have Y:=W.keep C E (by simp);refine Qqw.join (v1:=[_]) X (Qqw.join (v1:=[_]) ?_ Y);intro j a;obtain rfl:j=0:=by simpa using a
  exact World.cell?_setCell_same _ _ _ (V 0 (by simp))
 ·subst e
  rcases Aq.1 B with B|B
  ·exact J.ne.1 B
  ·exact F.1 (Aa _ (At0.2 (.inl B)))
 ·subst e
  exact F.1 (Aa _ (At0.2 (.inr B)))
theorem Z8.putCell(h:Z8 w pb po m S){i:Int}(H:i.toNat<(mC m).length){B v1 C E F:Bk}{y:Qb}{G:List Nat}(K:Ow Q3 w [B,v1,C,E,F] y G)(L:G.Nodup)(J:∀b∈G,b∉pb::S.all):
  Z8 (Qcz w S.cb (S.o+i.toNat * 5) B v1 C E F) pb po (Qf0 m i y) (S.put i G):=by
 obtain⟨V,T,M,O⟩:=h.room H;have f1:=Vz w S.cb (S.o+i.toNat * 5) B v1 C E F;exact h.turnC H (us':=[B,v1,C,E,F]) (f1.mono λc P=> .inl P) (Q9.put5 w S.cb _ B v1 C E F) (Qqw.put (vs:=[B,v1,C,E,F]) M (by simpa using O)) (K.two (f1.mono λ_=> .inr) J) L (λb U=> .inr (J b U))
theorem Z8.drew(h:Z8 w pb po m S):Z8 w.drew pb po m S:=h.frame (X:=λ_=>False) (Q1.refl _ _).drew (λ_ _ h=>h)
theorem Z8.drewN(h:Z8 w pb po m S)(n:Nat):Z8 (w.drewN n) pb po m S:=h.frame (X:=λ_=>False) ((Q1.refl _ _).drewN n) (λ_ _ h=>h)
end
theorem Q1.setNew{X:Nat->Prop}{a w:Bh}(h:Q1 X a w){p:Addr}(E:a.heap.size<=p.block)(u:Bk):Q1 X a (w.setCell p u):=
 ⟨h.os,h.tape,h.output,by simp[World.setCell];exact h.size,λb B C=>by rw[Below.heap_setCell _ _ _ _ (λe=>by omega)];exact h.block b B C⟩
theorem Qav{X:Nat->Prop}{a w:Bh}{b o p:Nat}(h:Q1 X a w)(B:a.heap.size<=b)(C v1:Bk):Q1 X a ((w.setCell ⟨b,o,N⟩ C).setCell ⟨b,p,N⟩ v1):=(h.setNew B _).setNew B _
theorem Z8.set2{w:Bh}{pb po:Nat}{m:Qqp}{S:MS}(h:Z8 w pb po m S){b o p:Nat}(C:b∉pb::S.all)(B v1:Bk):Z8 ((w.setCell ⟨b,o,N⟩ B).setCell ⟨b,p,N⟩ v1) pb po m S:=
 h.frame (X:=λc=>c=b) (V1 (X:=λc=>c=b) (Q1.refl _ w) rfl B v1) λc E e=>C (e▸E)
def Q3f(w:Bh)(S S':MS):Prop:=S'.cb=S.cb/\S'.o=S.o/\S'.cap=S.cap/\∀b∈S'.all,b∈S.all\/w.heap.size<=b
theorem Q3f.refl(w:Bh)(S:MS):Q3f w S S:=⟨rfl,rfl,rfl,λ_ h=> .inl h⟩
theorem Q3f.trans{w w':Bh}{S S' C:MS}(h:Q3f w S S')(k:Q3f w' S' C)(E:w.heap.size<=w'.heap.size):Q3f w S C:=
 ⟨k.1.trans h.1,k.2.1.trans h.2.1,k.2.2.1.trans h.2.2.1,λb B=>(k.2.2.2 b B).elim (λB=>h.2.2.2 b B) λB=> .inr (Au E B)⟩
theorem Q3f.put{w:Bh}{S:MS}{i:Int}{G:List Nat}(B:∀b∈G,b∈S.all\/w.heap.size<=b):Q3f w S (S.put i G):=
 ⟨rfl,rfl,rfl,λb C=>(Zf C).elim (λh=>B b h) .inl⟩
end Go.Proofs.YthbpkpnioaniiaaGreat
