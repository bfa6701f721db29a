import Derived.Lib.MinMax
import Derived.Test.YthbpkpnioaniiaaGreatP09
set_option maxHeartbeats 40000000
set_option maxRecDepth 100000
set_option linter.all false
namespace Go.Proofs.YthbpkpnioaniiaaGreat
open Go.RowKit Go.Proofs.Tryz
open Go.Value renaming int->I,slice->A
open Go.IntKind renaming i64->Z
open Option renaming none->N,some->R
open Bool renaming true->Bn,and_eq_true->Bl,false->Bm,false_and->Cn,true_and->Dl
open Go renaming World->Bh,Value->Bk,Calls->Bq,heap_alloc_new->Bg,maxLen->Bp,madeCells->Dh,bodyPost_ret->Ca
open Go.RowKit renaming Below->Bi
open Go.Value renaming agg->Cz
open Go.World renaming cell?_setCell_same->Bw,cell?_setCell_other->Dz
open List renaming mem_range->Cy,length_cons->Bs,replicate->Cl,replicate_succ->Gg,length_replicate->Ec,length_append->Bo
theorem Qeq{n:Qr2}(B:Jm n=Bn):(n.length<=600/\1<=n.length)/\(∀i,i<n.length->Yc (Qn n i)=Bn)/\(∀i,(aD (Qn n i)).length<=4/\(aW (Qn n i)).length<=4)/\(Qs n).length<=2400:=by
 unfold Jm at B;simp only[Bl]at B;have P:=Ql.1 B.1;have H:∀i,i<n.length->Yc (Qn n i)=Bn:=λi F=>by have:=Bf.1 B.2 i (Cy.2 F);simp only[Bl]at this;exact this.1
 have K:∀x:Qb,Yc x=Bn->((aD x).length<=4/\(aW x).length<=4)/\0<=aL x/\aL x<=8:=λx G=>by
  unfold Yc at G;simp only[Bl,beq_iff_eq]at G;obtain⟨⟨⟨S,L⟩,C⟩,E⟩:=G;refine⟨⟨?_, ?_⟩, ?_⟩
  ·unfold Zt at E
   repeat' split at E
   all_goals simp only[Bl,beq_iff_eq]at E
   ·omega
   ·omega
   ·omega
   ·omega
   ·omega
   ·have:=Ql.1 E.2.1;omega
   ·omega
   ·omega
  ·rw[<-Int.ofNat_le,L]
   unfold Q0b;repeat' split
   all_goals first|(rename_i M;have:=Ql.1 M;omega)|omega
  ·unfold Zy at C
   split at C
   ·exact Ql.1 C
   ·simp only[Bl,beq_iff_eq]at C;omega
 have J:∀i,(aD (Qn n i)).length<=4/\(aW (Qn n i)).length<=4:=λi=>by
  by_cases F:i<n.length
  ·exact(K _ (H i F)).1
  ·unfold Qn;rw[Ab,List.getElem?_eq_none (by omega)];simp[Qab,aD,aW]
 refine⟨by omega,H,J, ?_⟩;unfold Qs;rw[List.length_flatMap];have O:∀l:List Nat,(l.map λi=>(Q0i n i).length).sum<=l.length * 4:=λl=>by
  induction l with
  |nil=>simp
  |cons a r ih=>rw[List.map_cons,List.sum_cons,Bs,V0,Nat.succ_mul];have:=(J a).2;omega
 have:=O (List.range n.length);rw[List.length_range]at this;omega
theorem Qez{n:Qr2}{x:Wd}(h:x∈Qs n):(0<=x.1/\x.1<n.length)/\(0<=x.2/\x.2<(aW (Q7 n x.1)).length):=by
 obtain⟨i,B,h⟩:=List.mem_flatMap.1 h;obtain⟨k,C,rfl⟩:=List.mem_map.1 h;have B:=Cy.1 B;have C:=Cy.1 C;have E:Q7 n ((i:Nat):Int)=Qn n i:=by simp[Q7]
 simp only[E];omega
theorem Rd.wordV{w:Bh}{vs:List Bk}{a s:Int}(h:Rd Q4 w vs (a,s)):vs=[I Z a,I Z s]/\Qqm a/\Qqm s:=by
 obtain⟨_,_,rfl,⟨rfl,i⟩,⟨rfl,j⟩⟩:=h;exact⟨rfl,i,j⟩
theorem Q32{α:Type}(l:List α)(f:α->Bool):(!l.any λx=> !f x)=l.all f:=by
 rw[List.not_any_eq_all_not];congr 1;funext x;simp
theorem Qg8(w:Bh)(vs:List Bk)(n:List Qb)(h:Rd Je w vs n):
  Bq prog 107 #[.agg vs.toArray] w λe w'=>e=.returned (.bool (Ys n))/\Bi w.heap.size w w':=by
 obtain⟨p,c,rfl,-,L,M⟩:=J6 h;have G:=qh M;have O:=qh L;clear h M L;cases q0:Jm n with
 |false=>
  have H:D (Ys n=Bm):=qh (by simp only[Ys,q0,Cn]);go_enter func107,ntmps107;go_wp2_with((go_at_call 154;(with_reducible refine(Qey _ p c n (G.o.kept (Am (by go_grown))) O.o).mono ?_);rintro e w1 ⟨rfl,B⟩;rw[q0];have E:D (Bi w.heap.size w w1):=qh (Q0 (by go_grown) B);clear B))
  go_ret;exact⟨Q2 H.o.symm,E.o⟩
 |true=>
  have H:D (Ys n=(Qs n).all (Q0c n)):=qh (by simp only[Ys,q0,Dl]);have P:=qh (Qeq q0);have X:=qh q0;clear q0;have Y:D (Vg prog 157):=qh (by intro _ _;kernel_rfl);go_enter func107,ntmps107;go_upto_region 1 with fail
  refine Qq ?_;intro F J;have K:D (Bi w.heap.size w F):=qh (by rw[J];go_grown);have b:D (F.heap[w.heap.size]?=R (.cells #[A p n.length c] 71 (0,0))):=qh (by rw[J];exact Bg w _);have d:F.cell? ⟨w.heap.size,0,N⟩=R (A p n.length c):=Q8 b.o rfl;clear J;have f:D (At Je F w.heap.size 0 n):=qh (⟨[A p n.length c],rfl,λj g=>(by
   obtain rfl:j=0:=by simpa using g
   exact d),G.o.kept (Am K.o)⟩)
  go_upto_region 3 with((go_at_call 154;(with_reducible refine(Qey _ p c n (G.o.kept (Am K.o)) O.o).mono ?_);rintro e w1 ⟨rfl,B⟩;rw[X.o];have E:=qh B;clear B))
  have S:=qh (f.o.kept (Am E.o));have i:D (∀(W:Bh),Bi w1.heap.size w1 W->∀(C:Bh) (vs:List Bk) (x:Q4.den),x∈Qs n->Bi W.heap.size W C->Rd Q4 C vs x->Bq prog 157 (#[.agg vs.toArray]++ #[.pointer (R ⟨w.heap.size,0,N⟩)]) C λe w'=>e=.returned (.bool (!Q0c n x))/\Bi C.heap.size C w'):=qh (λW k C vs x l B m=>by obtain⟨a,s⟩:=x;obtain⟨rfl,-,-⟩:=m.wordV;obtain⟨⟨o,q⟩,r,t⟩:=Qez l;exact Qp9 C w.heap.size 0 n (S.o.kept (Am (Q0 k B))) a s o q r t (by have:=(P.o.2.2.1 a.toNat).2;have e:Q7 n a=Qn n a.toNat:=rfl;rw[e];omega));have T:D (n.length<=1000000/\(Qs n).length<=10000000):=qh (by have:=P.o;omega);go_wp2_with(first|((go_at_call 156;(with_reducible refine(Qc9 _ w.heap.size 0 n S.o T.o.1 T.o.2).mono ?_);rintro e w2 ⟨y,rfl,U,B⟩;have u:=qh U;have V:=qh B;clear U B))|((go_at_call 155;(with_reducible refine(Qap _ _ (Qs n) (λx=> !Q0c n x) _ _ (u.o.rd rfl) Y.o (i.o _ V.o)).mono ?_);rintro e z ⟨rfl,B⟩;have v:=qh B;clear B))|fail)
  go_ret;exact⟨Q2 (by rw[H.o,Q32]),Q0 (Q0 (Q0 K.o E.o) V.o) v.o⟩
theorem Qmr(w:Bh)(vs:List Bk)(n:List Qb)(h:Rd Je w vs n):
  Bq prog 106 #[.agg vs.toArray] w λe w'=>e=.returned (.bool (!Ys n))/\Bi w.heap.size w w':=by
 obtain⟨p,c,rfl,-,C,E⟩:=J6 h;have F:=qh h;clear h E C;go_enter func106,ntmps106;go_wp2_with((go_at_call 107;(with_reducible refine(Qg8 _ [A p n.length c] n (F.o.kept (Am (by go_grown)))).mono ?_);rintro e w1 ⟨rfl,B⟩;have G:D (Bi w.heap.size w w1):=qh (Q0 (by go_grown) B);clear B))
 go_ret;exact⟨rfl,G.o⟩
theorem Q8b(w:Bh)(p:Option Addr)(c:Nat)(bk:List Qr2)(h:Rd (.slice Je) w [A p bk.length c] bk):
  Bq prog 60 #[A p bk.length c] w λe w'=>e=.returned (.bool (Q0u bk))/\Bi w.heap.size w w':=by
 have H:=qh h;have F:D (Vg prog 106):=qh (by intro _ _;kernel_rfl);have G:D (∀(B:Bh) (vs:List Bk) (x:Je.den),x∈bk->Bi w.heap.size w B->Rd Je B vs x->Bq prog 106 (#[.agg vs.toArray]++ #[]) B λe w'=>e=.returned (.bool (!Ys x))/\Bi B.heap.size B w'):=qh (λB vs x _ _ J=>Qmr B vs x J);clear h;by_cases q:(bk.length:Int)<=24
 ·have C:D (Q0u bk=bk.all Ys):=qh (by unfold Q0u;simp[q])
  have K:decide ((bk.length:Int)<=24)=Bn:=by simpa using q
  go_enter func60,ntmps60;go_wp2_with((go_at_call 105;(with_reducible refine(Qbz _ _ bk (λx=> !Ys x) _ _ H.o F.o G.o).mono ?_);rintro e w1 ⟨rfl,E⟩;have L:=qh E;clear E))
  go_ret;exact⟨Q2 (by rw[C.o,Q32]),L.o⟩
 ·have C:D (Q0u bk=Bm):=qh (by unfold Q0u;simp[q])
  have K:decide ((bk.length:Int)<=24)=Bm:=by simpa using q
  go_enter func60,ntmps60;go_wp2;go_ret;exact⟨Q2 C.o.symm,Ai _ _⟩
theorem Q47(w:Bh)(vs:List Bk)(x:Qb)(h:Rd Q3 w vs x):Bq prog 201 #[.agg vs.toArray] w λe w'=>e=.returned (.bool (J5 (aK x)))/\Bi w.heap.size w w':=by
 obtain⟨k,l,v,d,ws⟩:=x;obtain⟨E,F,G,H,rfl,-,-,-⟩:=h.agentV;clear h;by_cases q0:2<=k
 ·have b0:decide (2<=k)=Bn:=by simpa using q0
  by_cases q1:k<=12
  ·have C:decide (k<=12)=Bn:=by simpa using q1
   have B:D (J5 k=Bn):=qh (by unfold J5 Qqz;rw[b0,C];rfl);go_enter func201,ntmps201;go_wp2;go_ret;exact⟨Q2 B.o.symm,by go_grown⟩
  ·have C:decide (k<=12)=Bm:=by simpa using q1
   have B:D (J5 k=Bm):=qh (by unfold J5 Qqz;rw[b0,C];rfl);go_enter func201,ntmps201;go_wp2;go_ret;exact⟨Q2 B.o.symm,by go_grown⟩
 ·have b0:decide (2<=k)=Bm:=by simpa using q0
  have B:D (J5 k=Bm):=qh (by unfold J5 Qqz;rw[b0];rfl);go_enter func201,ntmps201;go_wp2;go_ret;exact⟨Q2 B.o.symm,by go_grown⟩
theorem Q0r(w:Bh)(vs:List Bk)(x:Qb)(h:Rd Q3 w vs x):Bq prog 173 #[.agg vs.toArray] w λe w'=>e=.returned (.bool (aK x==13))/\Bi w.heap.size w w':=by
 obtain⟨k,l,v,d,ws⟩:=x;obtain⟨B,C,E,F,rfl,-,-,-⟩:=h.agentV;clear h;go_enter func173,ntmps173;go_wp2;go_ret;exact⟨rfl,by go_grown⟩
theorem Vl(w:Bh)(vs:List Bk)(x:Qb)(h:Rd Q3 w vs x):Bq prog 202 #[.agg vs.toArray] w λe w'=>e=.returned (.bool (aK x==0))/\Bi w.heap.size w w':=by
 obtain⟨k,l,v,d,ws⟩:=x;obtain⟨B,C,E,F,rfl,-,-,-⟩:=h.agentV;clear h;go_enter func202,ntmps202;go_wp2;go_ret;exact⟨rfl,by go_grown⟩
theorem Vf(w:Bh)(b o:Nat)(p:Option Addr)(n c:Nat)(k:Int)(h:w.cell? ⟨b,o,N⟩=R (A p n c)):Bq prog 204 #[.pointer (R ⟨b,o,N⟩),I Z k] w λe w'=>e=.returned (.bool (Qqz k 0 ((n:Int)-1)))/\w=w':=by
 have F:Qqz k 0 ((n:Int)-1)=(decide (0<=k) && decide (k<(n:Int))):=by
  unfold Qqz;have:decide (k<=(n:Int)-1)=decide (k<(n:Int)):=by rw[decide_eq_decide];omega
  rw[this]
 have C:=qh F;clear F;by_cases q0:0<=k
 ·have b0:decide (0<=k)=Bn:=by simpa using q0
  by_cases q1:k<n
  ·have E:decide (k<(n:Int))=Bn:=by simpa using q1
   have B:D (Qqz k 0 ((n:Int)-1)=Bn):=qh (by rw[C.o,b0,E];rfl);go_enter func204,ntmps204;go_wp2;go_ret;exact⟨Q2 B.o.symm,rfl⟩
  ·have E:decide (k<(n:Int))=Bm:=by simpa using q1
   have B:D (Qqz k 0 ((n:Int)-1)=Bm):=qh (by rw[C.o,b0,E];rfl);go_enter func204,ntmps204;go_wp2;go_ret;exact⟨Q2 B.o.symm,rfl⟩
 ·have b0:decide (0<=k)=Bm:=by simpa using q0
  have B:D (Qqz k 0 ((n:Int)-1)=Bm):=qh (by rw[C.o,b0];rfl);go_enter func204,ntmps204;go_wp2;go_ret;exact⟨Q2 B.o.symm,rfl⟩
theorem Qo6(w:Bh)(b o:Nat)(m:Qqp)(h:At Qo w b o m)(t a:Int)(ha:Qqm a):
  Bq prog 167 #[.pointer (R ⟨b,o,N⟩),.agg #[I Z t,I Z a]] w λe w'=>e=.returned (.bool (Zh (mC m) (t,a)))/\Bi w.heap.size w w':=by
 obtain⟨cs,f,⟨rt,ra⟩,xs⟩:=m;obtain⟨pc,n,px,cx,⟨S,-,-,-,-⟩,-,⟨-,hm,hc⟩,-⟩:=h.mem;unfold Bp at hm;have HC:=qh hc;have E:=Ac w _ S;simp only at E;clear h hc;cases q0:Qqz a 0 ((cs.length:Int)-1)with
 |false=>
  have T:D (Zh cs (t,a)=Bm):=qh (by simp only[Zh,q0,Cn]);have p:=qh q0;go_enter func167,ntmps167;go_wp2_with((go_at_call 204;(with_reducible refine(Vf _ b o pc cs.length n a (by rw[World.cell?_alloc_lt _ _ _ E];exact S)).mono ?_);rintro e w1 ⟨rfl,rfl⟩;rw[p.o]))
  go_ret;exact⟨Q2 T.o.symm,by go_grown⟩
 |true=>
  have hi:=Ql.1 q0;have A1:a.toNat<cs.length:=by omega
  have A7:a<(cs.length:Int):=by omega
  have A8:0<=a:=hi.1;obtain⟨F,G,rfl,q⟩:=Rd.elem HC.o a.toNat A1;have e0:Q7 cs a=cs[a.toNat]:=Qx A1;generalize cs[a.toNat]=x at *
  obtain⟨k,l,v,d,ws⟩:=x;have T:D (Zh cs (t,a)=((t==1 && J5 k)||(t==2 && k==13))):=qh (by simp only[Zh,q0,Dl,e0,aK]);obtain⟨J,K,L,M,⟨U,r,s,V,X⟩,-,-,-⟩:=q.agent;have HA:=qh (q.rdv V X);simp only[Ty.sz,Nat.reduceAdd]at U r s V X;have O:=Ac w _ U;simp only at O;have p:=qh q0;clear q q0 e0 hi;go_enter func167,ntmps167;go_upto_region 1 with fail
  refine Qq ?_;intro B y;have C:D (Bi w.heap.size w B):=qh (by rw[y];go_grown);have A4:D (B.heap[w.heap.size]?=R (.cells #[I Z t,I Z a] 40 (0,0))):=qh (by rw[y];exact Bg w _);clear y;obtain⟨⟨Y,p1⟩,-⟩:=Za A4.o;have z:=(Am C.o).cell _ _ U;have k1:=(Am C.o).cell _ _ r;have k2:=(Am C.o).cell _ _ s;have k3:=(Am C.o).cell _ _ V;have k4:=(Am C.o).cell _ _ X;have c:=(Am C.o).cell _ _ S;clear U r s V X S O E;have O:=Ac B _ z;have E:=Ac B _ c;simp only at O E;go_upto_region 3 with((go_at_call 204;(with_reducible refine(Vf _ b o _ cs.length n a c).mono ?_);rintro e w1 ⟨rfl,rfl⟩;rw[p.o]))
  go_cut [5] (λu wx=>∃g,u=.pointer (R ⟨g,0,N⟩)/\D (wx.heap[g]?=R (.cells #[I Z k,I Z l,I Z v,A J d.length K,A L ws.length M] 134 (0,0)))/\D (Bi B.heap.size B wx))
  case first=>
   go_region_held3(λW=>W.cell? ⟨b,o,N⟩=R (A (R ⟨F,G,N⟩) cs.length n)/\W.cell? ⟨w.heap.size,1,N⟩=R (I Z a)/\W.cell? ⟨F,G+a.toNat * 5,N⟩=R (I Z k)/\W.cell? ⟨F,G+a.toNat * 5+1,N⟩=R (I Z l)/\W.cell? ⟨F,G+a.toNat * 5+2,N⟩=R (I Z v)/\W.cell? ⟨F,G+a.toNat * 5+3,N⟩=R (A J d.length K)/\W.cell? ⟨F,G+a.toNat * 5+4,N⟩=R (A L ws.length M)) ((refine Qop (w:=B) ?_ c p1 z k1 k2 k3 k4;go_grown)) (fail)
   all_goals
    go_wp2_with fail
    go_meet;exact⟨_,rfl,Bg B _,(show Bi B.heap.size B _ by go_grown)⟩
  case rest=>
   obtain⟨g,rfl,P,A2⟩:=hcut;rename Bh=>W2
   obtain⟨g0,g1,g2,g3,g4⟩:W2.cell? ⟨g,0,N⟩=R (I Z k)/\W2.cell? ⟨g,1,N⟩=R (I Z l)/\W2.cell? ⟨g,2,N⟩=R (I Z v)/\W2.cell? ⟨g,3,N⟩=R (A J d.length K)/\W2.cell? ⟨g,4,N⟩=R (A L ws.length M):=⟨Q8 P.o rfl,Q8 P.o rfl,Q8 P.o rfl,Q8 P.o rfl,Q8 P.o rfl⟩;have i:=qh (Q0 C.o A2.o);have A3:=qh (HA.o.kept (Am i.o));have Y:=(Am A2.o).cell _ _ Y;clear p1 z k1 k2 k3 k4 c O E;by_cases t1:t=1
   ·subst t1
    have j:D (Zh cs (1,a)=J5 k):=qh (by rw[T.o];simp);cases hq:J5 k
    all_goals
     have HK:=qh hq;go_wp2_with((go_at_call 201;(with_reducible refine(Q47 _ [I Z k,I Z l,I Z v,A J d.length K,A L ws.length M] _ A3.o).mono ?_);rintro e w3 ⟨rfl,H⟩;have Y:=(Am H).cell _ _ Y;have A0:=qh (Q0 i.o H);clear H;simp only[aK];rw[HK.o]))
     go_ret;exact⟨Q2 (by show _=Zh cs (1,a);rw[j.o,HK.o]),A0.o⟩
   ·have A5:(t==1)=Bm:=by simpa using t1
    have j:D (Zh cs (t,a)=(t==2 && k==13)):=qh (by rw[T.o,A5];simp);by_cases t2:t=2
    ·subst t2
     go_wp2_with((go_at_call 173;(with_reducible refine(Q0r _ [I Z k,I Z l,I Z v,A J d.length K,A L ws.length M] _ A3.o).mono ?_);rintro e w3 ⟨rfl,H⟩;have A0:=qh (Q0 i.o H);clear H))
     go_ret;exact⟨Q2 (by show _=Zh cs (2,a);rw[j.o];simp[aK]),A0.o⟩
    ·have A6:(t==2)=Bm:=by simpa using t2
     go_wp2_with fail
     go_ret;exact⟨Q2 (by show _=Zh cs (t,a);rw[j.o,A6];rfl),i.o⟩
theorem Q7o(n:Nat):(Dh (Cz #[I Z 0,I Z 0]).cells (n * 2)).toList=Cl (n * 2) (I Z 0):=by
 have B:(Cz #[I Z 0,I Z 0]).cells=#[I Z 0,I Z 0]:=by rfl
 rw[B];unfold Dh;apply List.ext_getElem
 ·simp
 ·intro i C E
  simp only[Array.toList_map,List.getElem_map,Array.toList_range,List.getElem_range,List.getElem_replicate,List.size_toArray,Bs,List.length_nil];have:i%2=0\/i%2=1:=by omega
  rcases this with h|h<;>simp[h]
theorem Qbn:∀n:Nat,Q8p Q4 (Cl n ((0:Int),(0:Int)))=Cl (n * 2) (I Z 0)
 |0=>rfl
 |n+1=>by have:=Qbn n;rw[Gg,show(n+1) * 2=n * 2+1+1 by omega,Gg,Gg];show Qq8 Q4 ((0:Int),(0:Int))++Q8p Q4 (Cl n ((0:Int),(0:Int)))=_;rw[this];rfl
theorem Q8n(w:Bh)(T:TypeId)(n:Nat)(E:n<=1000000000):Qqe Q4 T w.heap.size (w.alloc (.cells (Dh (Cz #[I Z 0,I Z 0]).cells (n * 2)) T)) (A (R ⟨w.heap.size,0,N⟩) n n) (Cl n ((0:Int),(0:Int))):=by
 have h:=Qqe.of_block (t:=Q4) (e:=T) (B:=w.heap.size) (xs:=Cl n ((0:Int),(0:Int))) (Bg w (.cells (Dh (Cz #[I Z 0,I Z 0]).cells (n * 2)) T)) (Aj _) rfl (by rw[Q7o,Qbn]) (λx C=>by rw[List.eq_of_mem_replicate C];exact Q3p (a:=0) (b:=0) (by unfold Qqm;omega) (by unfold Qqm;omega)) (by rw[Ec];unfold Bp;omega);rw[Ec]at h;exact h
theorem Qah(w:Bh)(n:Nat)(H:n<=1000000000):(Instr.makeSlice 126 (I Z (n:Int)) (I Z (n:Int))).run prog w=.ok (A (R ⟨w.heap.size,0,N⟩) n n) (w.alloc (.cells (Dh (Cz #[I Z 0,I Z 0]).cells (n * 2)) 185)):=by
 obtain⟨B,C,E,F,G⟩:=info_parts Q7l;have:=run_make (P:=prog) w 126 185 B (Cz #[I Z 0,I Z 0]) underlying126 C E Z Z (n:Int) (n:Int) (by omega) (by omega) (by rw[G];omega) (by omega);rw[F]at this;simpa using this
theorem Q4l{w:Bh}{k l v:Int}{d:List Int}{ws:List Wd}{B C:Bk}(E:Qqm k)(F:Qqm l)(G:Qqm v)(H:Rd (.slice .int) w [B] d)(J:Rd (.slice Q4) w [C] ws):Rd Q3 w [I Z k,I Z l,I Z v,B,C] (k,l,v,d,ws):=
 ⟨[_],[_,_,_,_],rfl,⟨rfl,E⟩,[_],[_,_,_],rfl,⟨rfl,F⟩,[_],[_,_],rfl,⟨rfl,G⟩,[_],[_],rfl,H,J⟩
theorem Qkm(w:Bh)(vs:List Bk)(x:Qb)(h:Rd Q3 w vs x)(g:(aW x).length<=100000000):
  Bq prog 163 #[.agg vs.toArray] w λe w'=>e=.returned (.bool (Yg x))/\Bi w.heap.size w w':=by
 have H:=qh h;obtain⟨k,l,v,d,ws⟩:=x;obtain⟨K,L,O,P,rfl,⟨i,j,m⟩,⟨A2,y,n⟩,⟨A3,-,z⟩⟩:=h.agentV;have HD:=qh n;have c:D (Qqm k/\Qqm l/\Qqm v):=qh (⟨i,j,m⟩);clear h z n i j m;unfold Bp at y;have g:ws.length<=100000000:=g;cases q0:J5 k with
 |true=>
  have f:=qh q0;have Y:D (Yg (k,l,v,d,ws)=Yc (k,l,v,d,Cl (ws.length+1) ((0:Int),(0:Int)))):=qh (by
   have:=Ql.1 q0;have n0:(k==0)=Bm:=by simp;omega
   have A0:(k==13)=Bm:=by simp;omega
   simp only[Yg,aK,n0,A0,q0,Dl,Bool.false_eq_true,if_false];rfl)
  clear q0;go_enter func163,ntmps163;go_upto_region 1 with fail
  refine Qq ?_;intro S T;have U:D (Bi w.heap.size w S):=qh (by rw[T];go_grown);obtain⟨C,E,F,G,J⟩:=Q0n w (I Z k) (I Z l) (I Z v) (A K d.length L) (A O ws.length P) 134;rw[<-T]at C E F G J;clear T;go_wp2_with((go_at_call 201;(with_reducible refine(Q47 _ [I Z k,I Z l,I Z v,A K d.length L,A O ws.length P] _ (H.o.kept (Am U.o))).mono ?_);rintro e w1 ⟨rfl,B⟩;have M:=qh B;clear B;simp only[aK];rw[f.o]))
  have k0:=(Am M.o).cell _ _ C;have k1:=(Am M.o).cell _ _ E;have k2:=(Am M.o).cell _ _ F;have k3:=(Am M.o).cell _ _ G;have k4:=(Am M.o).cell _ _ J;clear C E F G J;have o:=qh (Q0 U.o M.o);have p:(ws.length:Int)+1=((ws.length+1:Nat):Int):=by omega
  have q:=λW=>Qah W (ws.length+1) (by omega);have A4:∀W:Bh,(Instr.makeSlice 126 (I Z ((ws.length:Int)+1)) (I Z ((ws.length:Int)+1))).run prog W=.ok (A (R ⟨W.heap.size,0,N⟩) (ws.length+1) (ws.length+1)) (W.alloc (.cells (Dh (Cz #[I Z 0,I Z 0]).cells ((ws.length+1) * 2)) 185)):=λW=>by rw[p];exact q W
  have A5:IntKind.i64.wrap ((ws.length:Int)+1)=(ws.length:Int)+1:=by simp only[IntKind.wrap_i64];omega
  have A1:D (∀W:Bh,Qqe Q4 185 W.heap.size (W.alloc (.cells (Dh (Cz #[I Z 0,I Z 0]).cells ((ws.length+1) * 2)) 185)) (A (R ⟨W.heap.size,0,N⟩) (ws.length+1) (ws.length+1)) (Cl (ws.length+1) ((0:Int),(0:Int)))):=qh (λW=>Q8n W _ (ws.length+1) (by omega));clear q p;generalize Dh (Cz #[I Z 0,I Z 0]).cells ((ws.length+1) * 2)=cur at *
  have HR:=qh (show Rd Q3 ((w1.alloc (.cells cur 185)).drew) [I Z k,I Z l,I Z v,A K d.length L,A (R ⟨w1.heap.size,0,N⟩) (ws.length+1) (ws.length+1)] (k,l,v,d,Cl (ws.length+1) ((0:Int),(0:Int)))from
   Q4l c.o.1 c.o.2.1 c.o.2.2 (HD.o.kept ((Am o.o).trans (Am (show Bi w1.heap.size w1 _ by go_grown)))) (((A1.o w1).rd rfl).kept (Am (Ai _ _).drew)))
  go_region_held3(λW=>W.cell? ⟨w.heap.size,0,N⟩=R (I Z k)/\W.cell? ⟨w.heap.size,1,N⟩=R (I Z l)/\W.cell? ⟨w.heap.size,2,N⟩=R (I Z v)/\W.cell? ⟨w.heap.size,3,N⟩=R (A K d.length L)/\W.cell? ⟨w.heap.size,4,N⟩=R (A O ws.length P))
   ((refine Qar (w:=w1) ?_ k0 k1 k2 k3 k4;first|with_reducible exact r.o|go_grown))
   (((go_at_call 196;(with_reducible refine(Qcp _ [I Z k,I Z l,I Z v,A K d.length L,A (R ⟨w1.heap.size,0,N⟩) (ws.length+1) (ws.length+1)] _ HR.o).mono ?_);rintro e w5 ⟨rfl,B⟩;have r:D (Bi w1.heap.size w1 w5):=qh (Q0 (by go_grown) B);clear B)))
  all_goals
   go_wp2_with fail
   go_ret;exact⟨Q2 Y.o.symm,Q0 o.o r.o⟩
 |false=>
  have f:=qh q0;have Y:D (Yg (k,l,v,d,ws)=(if k==0 then l==0 && ((d.length:Int)==0 && (ws.length:Int)==0)else if k==13 then l==0 && (v==0 && ((d.length:Int)==0 && decide ((ws.length:Int)<2)))else Bm)):=qh (by show(if k==0 then _ else if k==13 then _ else J5 k && _)=_;rw[q0];rfl);have s:decide ((ws.length:Int)<=1)=decide ((ws.length:Int)<2):=by rw[decide_eq_decide];omega
  have A6:=qh s;clear q0 s;go_enter func163,ntmps163;go_upto_region 1 with fail
  refine Qq ?_;intro S T;have U:D (Bi w.heap.size w S):=qh (by rw[T];go_grown);obtain⟨C,E,F,G,J⟩:=Q0n w (I Z k) (I Z l) (I Z v) (A K d.length L) (A O ws.length P) 134;rw[<-T]at C E F G J;clear T;have a:D (∀W,Bi S.heap.size S W->Rd Q3 W [I Z k,I Z l,I Z v,A K d.length L,A O ws.length P] (k,l,v,d,ws)):=qh (λW B=>H.o.kept (Am (Q0 U.o B)));have b:D (∀W,Bi S.heap.size S W->W.cell? ⟨w.heap.size,0,N⟩=R (I Z k)/\W.cell? ⟨w.heap.size,1,N⟩=R (I Z l)/\W.cell? ⟨w.heap.size,2,N⟩=R (I Z v)/\W.cell? ⟨w.heap.size,3,N⟩=R (A K d.length L)/\W.cell? ⟨w.heap.size,4,N⟩=R (A O ws.length P)):=qh (λW B=>have X:=Am B;⟨X.cell _ _ C,X.cell _ _ E,X.cell _ _ F,X.cell _ _ G,X.cell _ _ J⟩);go_upto_region 3 with((go_at_call 201;(with_reducible refine(Q47 _ [I Z k,I Z l,I Z v,A K d.length L,A O ws.length P] _ (a.o _ (Ai _ _))).mono ?_);rintro e w1 ⟨rfl,B⟩;have M:=qh B;clear B;simp only[aK];rw[f.o]))
  clear C E F G J;obtain⟨C,E,F,G,J⟩:=b.o _ M.o;by_cases t:k=13
  ·subst t
   go_wp2_with((go_at_call 173;(with_reducible refine(Q0r _ [I Z 13,I Z l,I Z v,A K d.length L,A O ws.length P] _ (a.o _ M.o)).mono ?_);rintro e w2 ⟨rfl,B⟩;have V:=qh (Q0 M.o B);clear B C E F G J;obtain⟨C,E,F,G,J⟩:=b.o _ V.o;simp only[aK]))
   all_goals(go_ret;exact⟨Q2 (by rw[Y.o];first|(simp_all;done)|(simp_all;omega)),Q0 U.o V.o⟩)
  ·have A7:(k==13)=Bm:=by simpa using t
   go_wp2_with(first|((go_at_call 173;(with_reducible refine(Q0r _ [I Z k,I Z l,I Z v,A K d.length L,A O ws.length P] _ (a.o _ M.o)).mono ?_);rintro e w2 ⟨rfl,B⟩;have V:=qh (Q0 M.o B);clear B C E F G J;obtain⟨C,E,F,G,J⟩:=b.o _ V.o;simp only[aK]))|((go_at_call 202;(with_reducible refine(Vl _ [I Z k,I Z l,I Z v,A K d.length L,A O ws.length P] _ (a.o _ V.o)).mono ?_);rintro e w3 ⟨rfl,B⟩;have u:=qh (Q0 V.o B);clear B C E F G J;obtain⟨C,E,F,G,J⟩:=b.o _ u.o;simp only[aK]))|fail)
   all_goals(go_ret;exact⟨Q2 (by rw[Y.o];simp_all),Q0 U.o u.o⟩)
theorem Q7n(w:Bh)(pb B:Nat)(m:Qqp)(S:MS)(h:Z8 w pb B m S)(i:Int)(O:0<=i)(P:i<(mC m).length):
  Bq prog 176 #[.pointer (R ⟨pb,B,N⟩),I Z i] w λe w'=>e=.returned (.tuple #[])/\Z8 w' pb B (Qg m i) (S.put i [])/\Q1 (λc=>c=pb\/c=S.cb) w w'/\Q9 pb B 5 w w':=by
 have C:=qh h;obtain⟨px,cx,T,U,-,-,-,E,-,-,-⟩:=h.head;have K:=qh E;have F:i.toNat<(mC m).length:=by omega
 obtain⟨us,L,G,H⟩:=h.cell F;obtain⟨V,W,X,Y,a,b,rfl,-⟩:=H.agent;obtain⟨d,f,g,j,k⟩:=Q4b G;have J:=h.cells.bound;have l:=λq=>h.blk.free q;have n:=λq=>h.cells.blk.free q;obtain⟨M,o⟩:=h.ne;unfold Bp at J;obtain⟨p,r⟩:=J;have s:=h.blk.lt;have t:=h.cells.blk.lt;clear h H L G E;go_enter func176,ntmps176;go_wp2_with fail
 go_still_tail 11,(by kernel_rfl)
 go_wp2_with fail
 go_end0
 exact⟨rfl,(C.o.put5 F (by unfold Qqm;omega) (Ow.freeCell K.o) (by simp) (by simp)).drew,((C.o.fr5 _ _ _ _ _ _).setCell (.inl rfl) _).drew,((Q9.of_frame (Vz _ _ _ _ _ _ _ _) M B 5).set (B+1) (by omega) _).drew⟩
theorem Qjr(w:Bh)(pb B:Nat)(m:Qqp)(S:MS)(h:Z8 w pb B m S)(k l v:Int)(E F:Option Addr)(H J K L:Nat)(y:Qb)(G:List Nat)(A7:0<=mF m)(hf:mF m<(mC m).length)
  (U:Ow Q3 w [I Z k,I Z l,I Z v,A E H J,A F K L] y G) (V:G.Nodup) (W:∀b∈G,b∉pb::S.all):
  Bq prog 242 #[.pointer (R ⟨pb,B,N⟩),.agg #[I Z k,I Z l,I Z v,A E H J,A F K L]] w λe w'=>e=.returned (I Z (mF m))/\Z8 w' pb B (Qj m y) (S.put (mF m) G)/\Q1 (λc=>c=pb\/c=S.cb) w w'/\Q9 pb B 5 w w':=by
 have HM:=qh h;have X:=qh U;have HG:=qh V;have Y:=qh W;obtain⟨px,cx,a,d,-,-,-,A2,-,-,-⟩:=h.head;have P:(mF m).toNat<(mC m).length:=by omega
 obtain⟨us,T,M,O⟩:=h.cell P;obtain⟨A8,A9,AA,AB,Gd,Gw,rfl,-,-,-,-,-,g⟩:=O.agent;obtain⟨j,n,p,r,s⟩:=Q4b M;have A3:=qh g;have t:=h.cells.bound;have u:=λq=>h.blk.free q;have x:=λq=>h.cells.blk.free q;obtain⟨A4,AC⟩:=h.ne;unfold Bp at t;obtain⟨AD,AE⟩:=t;have z:=h.blk.lt;have A0:=h.cells.blk.lt;clear h O T M A2 g U V W;go_enter func242,ntmps242;go_upto_region 3 with fail
 have C:=qh ((HM.o.putF (f:=aV (Q7 (mC m) (mF m))) A3.o).kept (Below.alloc (Ai _ _) (Aj _) (.cells #[I Z k,I Z l,I Z v,A E H J,A F K L] 134)));have A1:=qh ((Ze w pb (B+1) (I Z (aV (Q7 (mC m) (mF m))))).alloc (.cells #[I Z k,I Z l,I Z v,A E H J,A F K L] 134));have A5:=qh (((Q9.refl pb B 5 w).set (B+1) (by omega) (I Z (aV (Q7 (mC m) (mF m))))).fr ((Q1.refl (λ_=>False) _).alloc (.cells #[I Z k,I Z l,I Z v,A E H J,A F K L] 134)) (λh=>h));obtain⟨⟨x0,x1,x2,x3,x4⟩,-⟩:=Y0 (Q09 w ⟨pb,B+1,N⟩ (I Z (aV (Q7 (mC m) (mF m)))) #[I Z k,I Z l,I Z v,A E H J,A F K L] 134);generalize (w.setCell ⟨pb,B+1,N⟩ (I Z (aV (Q7 (mC m) (mF m))))).alloc (.cells #[I Z k,I Z l,I Z v,A E H J,A F K L] 134)=W2 at *
 clear a d u x z A0 j n p r s;obtain⟨_,_,d0,d,-,-,-,-,-,-,-⟩:=C.o.head;obtain⟨us,T,M,O⟩:=C.o.cell (i:=mF m) P;obtain⟨_,_,_,_,_,_,rfl,-⟩:=O.agent;obtain⟨j,n,p,r,s⟩:=Q4b M;have u:=λq=>C.o.blk.free q;have x:=λq=>C.o.cells.blk.free q;have z:=C.o.blk.lt;have A0:=C.o.cells.blk.lt;clear O T M;have a:W2.cell? ⟨pb,B,N⟩=R (A (R ⟨S.cb,S.o,N⟩) (mC m).length S.cap):=d0;clear d0;go_wp2_with fail
 go_still_tail 7,(by kernel_rfl)
 go_wp2_with fail
 go_ret;have A6:=X.o.frame A1.o (λb hb=>⟨X.o.lt b hb,λe=>Y.o b hb (e▸Ae)⟩);exact⟨rfl,(show Z8 _ _ _ (Qj m y) _ from(C.o.putCell (i:=mF m) P A6 HG.o Y.o).drew),(A1.o.mono λ_=> .inl).trans ((C.o.fr5 _ _ _ _ _ _).drew),(A5.o.fr (Vz _ _ _ _ _ _ _ _) A4).drew⟩
theorem MS.put_self{S:MS}{i:Int}(h:i.toNat<S.Fs.length):S.put i (S.Fs.getD i.toNat [])=S:=by
 unfold MS.put;have:S.Fs.set i.toNat (S.Fs.getD i.toNat [])=S.Fs:=by rw[Ab,Ad h];exact List.set_getElem_self h
 rw[this]
theorem Z8.wordAt{w:Bh}{pb Y:Nat}{m:Qqp}{S:MS}(h:Z8 w pb Y m S){i:Int}(d:i.toNat<(mC m).length){k:Nat}(f:k<(aW (Q7 (mC m) i)).length):
  ∃(B ow E:Nat),w.cell? ⟨S.cb,S.o+i.toNat * 5+4,N⟩=R (A (R ⟨B,ow,N⟩) (aW (Q7 (mC m) i)).length E)/\(w.cell? ⟨B,ow+k * 2,N⟩=R (I Z ((aW (Q7 (mC m) i)).getD k (0,0)).1)/\w.cell? ⟨B,ow+k * 2+1,N⟩=R (I Z ((aW (Q7 (mC m) i)).getD k (0,0)).2))/\(∀q,w.frozen? ⟨B,q,N⟩=Bm)/\(B∈S.all/\B≠pb/\B≠S.cb)/\(aW (Q7 (mC m) i)).length<=E/\
   ∀t a,Qqm t->Qqm a->Z8 ((w.setCell ⟨B,ow+k * 2,N⟩ (I Z t)).setCell ⟨B,ow+k * 2+1,N⟩ (I Z a)) pb Y (Qa m i ((aW (Q7 (mC m) i)).set k (t,a))) S:=by
 obtain⟨us,x,z,A0⟩:=h.cell d;obtain⟨pd,cd,pw,E,L,M,rfl,F,g,j,i1,i2,i3⟩:=A0.agent;obtain⟨u0,u1,u2,u3,l⟩:=Q4b z;have n:=Ar.1 h.nodup;have p:S.cb∉S.Fs.flatten++S.Fx/\(S.Fs.flatten++S.Fx).Nodup:=Ar.1 n.2;have A8:=h.cells.len;have O:i.toNat<S.Fs.length:=by omega
 have P:(L++M).Nodup:=F▸Qft (Qqn p.2).1 O;have r:∀b∈L++M,b∈S.Fs.flatten:=λb C=>Zu O (F▸C);have s:∀b∈L++M,b∈S.all:=λb C=>Aa _ (Ag _ (r b C));have A1:(aW (Q7 (mC m) i)).length<=E:=by obtain⟨_,_,he,h1,_⟩:=J6 j.rd;simp only[List.cons.injEq,Value.slice.injEq,and_true]at he;omega
 obtain⟨B,ow,us,G,rfl,H,A9,AA,AB,AC,x,A2,A3,u,A4⟩:=j.focus (Qqn P).2.1 k f;have A5:=Jt (t:=Q4) rfl u;subst A5;have hg:(aW (Q7 (mC m) i)).getD k (0,0)=(aW (Q7 (mC m) i))[k]:=by rw[Ab,Ad f];rfl
 obtain⟨_,_,_,_,rfl,-,⟨rfl,j0,-⟩,⟨rfl,j1,-⟩⟩:=u;obtain⟨T,U⟩:=Qcy A2;simp only[Ty.sz,Nat.reduceAdd]at T U;have V:B≠pb/\B≠S.cb:=⟨λe=>n.1 (e▸s B (Af _ H)),λe=>p.1 (e▸Ag _ (r B (Af _ H)))⟩;refine⟨B,ow,E,l,by rw[hg];exact⟨T,U⟩,A3,⟨s B (Af _ H),V⟩,A1,λt a ht ha=> ?_⟩;have J:Q1 (λc=>c=B) w ((w.setCell ⟨B,ow+k * 2,N⟩ (I Z t)).setCell ⟨B,ow+k * 2+1,N⟩ (I Z a)):=V1 (X:=λc=>c=B) (Q1.refl _ _) rfl _ _;have A6:Qqw ((w.setCell ⟨B,ow+k * 2,N⟩ (I Z t)).setCell ⟨B,ow+k * 2+1,N⟩ (I Z a)) B (ow+k * 2) [I Z t,I Z a]:=by
  refine Q5g ?_ (Bw _ _ _ (?_:World.cell? _ _=R (I Z (aW (Q7 (mC m) i))[k].2)))
  ·rw[Dz _ _ _ _ (by intro e;simp only[Addr.mk.injEq,and_true,true_and]at e;omega)];exact Bw _ _ _ T
  ·rw[Dz _ _ _ _ (by intro e;simp only[Addr.mk.injEq,and_true,true_and]at e;omega)];exact U
 have A7:=A4 _ [I Z t,I Z a] (t,a) (J.mono λc W=> .inl W) (by have:=((Q9.refl B (ow+k * 2) 2 w).set (ow+k * 2) (by omega) (I Z t)).set (ow+k * 2+1) (by omega) (I Z a);simpa[Ty.sz]using this) (by simpa[Ty.sz]using A6) (Ow.word ht ha);have K:∀q,((w.setCell ⟨B,ow+k * 2,N⟩ (I Z t)).setCell ⟨B,ow+k * 2+1,N⟩ (I Z a)).cell? ⟨S.cb,q,N⟩=w.cell? ⟨S.cb,q,N⟩:=λq=>J.cell h.cells.blk.lt (λe=>V.2 e.symm) q
 have v:=h.turnC d (us':=[I Z (aK (Q7 (mC m) i)),I Z (aL (Q7 (mC m) i)),I Z (aV (Q7 (mC m) i)),A pd (aD (Q7 (mC m) i)).length cd,A (R ⟨B,ow,N⟩) (aW (Q7 (mC m) i)).length E]) (y:=(aK (Q7 (mC m) i),aL (Q7 (mC m) i),aV (Q7 (mC m) i),aD (Q7 (mC m) i),(aW (Q7 (mC m) i)).set k (t,a))) (G:=L++M)
  (J.mono λc W=> .inr (by rw[W,F];exact Af _ H)) (Q9.of_frame J (λe=>V.2 e.symm) _ _) (Q11 ((K _).trans u0) ((K _).trans u1) ((K _).trans u2) ((K _).trans u3) ((K _).trans l))
  (Ow.mkAgent i1 i2 i3 (g.frame J λb C=>⟨g.lt b C,λe=>(Qqn P).2.2 b C (e▸H)⟩) A7) P (λb C=> .inl (F▸C))
 rw[<-F,MS.put_self O]at v;exact v
theorem Qk.wordAt{E w:Bh}{F S:MS}{pb G:Nat}{m:Qqp}{l:List Nat}(h:Qk E F pb G w m S l){i:Int}(K:i.toNat<(mC m).length)(L:i.toNat∉l){k:Nat}(M:k<(aW (Q7 (mC m) i)).length):
  ∃(B ow C:Nat),w.cell? ⟨S.cb,S.o+i.toNat * 5+4,N⟩=R (A (R ⟨B,ow,N⟩) (aW (Q7 (mC m) i)).length C)/\(w.cell? ⟨B,ow+k * 2,N⟩=R (I Z ((aW (Q7 (mC m) i)).getD k (0,0)).1)/\w.cell? ⟨B,ow+k * 2+1,N⟩=R (I Z ((aW (Q7 (mC m) i)).getD k (0,0)).2))/\(∀q,w.frozen? ⟨B,q,N⟩=Bm)/\(B∈S.all/\B≠pb/\B≠S.cb)/\(aW (Q7 (mC m) i)).length<=C/\
   ∀t a,Qqm t->Qqm a->Qk E F pb G ((w.setCell ⟨B,ow+k * 2,N⟩ (I Z t)).setCell ⟨B,ow+k * 2+1,N⟩ (I Z a)) (Qa m i ((aW (Q7 (mC m) i)).set k (t,a))) S l:=by
 obtain⟨B,ow,C,O,P,T,H,U,V⟩:=h.mem.wordAt K M;refine⟨B,ow,C,O,P,T,H,U,λt a W X=> ?_⟩;have J:Q1 (λc=>c∈S.all) w ((w.setCell ⟨B,ow+k * 2,N⟩ (I Z t)).setCell ⟨B,ow+k * 2+1,N⟩ (I Z a)):=V1 (Q1.refl _ _) H.1 _ _;exact h.step (V t a W X) (Q6m h.free L) (Q3f.refl _ _) (J.mono λc Y=> .inr Y) (Q9.of_frame J (Ar.1 h.mem.nodup).1 _ _)
theorem Qj7(w:Bh)(a:Int):Bq prog 264 #[I Z a] w λe w'=>e=.returned (.agg #[I Z 2,I Z a])/\Bi w.heap.size w w':=by
 have B:=Bg w (.cells #[I Z 0,I Z 0] 40);obtain⟨⟨F,G⟩,-⟩:=Za B;have C:=Vm B (I Z 2) (I Z a);obtain⟨⟨s0,s1⟩,-⟩:=Za C;have E:=qh (Below.alloc (Ai w.heap.size w) (Aj _) (.cells #[I Z 2,I Z a] 40));go_enter func264,ntmps264;go_wp2_with fail
 refine Ca (v:=.agg #[I Z 2,I Z a]) (by simp[results,results264,go_sem,s0,s1]) rfl ?_;exact⟨rfl,E.o⟩
theorem Q01(w:Bh)(a:Int):Bq prog 246 #[I Z a] w λe w'=>e=.returned (.agg #[I Z 1,I Z a])/\Bi w.heap.size w w':=by
 have B:=Bg w (.cells #[I Z 0,I Z 0] 40);obtain⟨⟨F,G⟩,-⟩:=Za B;have C:=Vm B (I Z 1) (I Z a);obtain⟨⟨s0,s1⟩,-⟩:=Za C;have E:=qh (Below.alloc (Ai w.heap.size w) (Aj _) (.cells #[I Z 1,I Z a] 40));go_enter func246,ntmps246;go_wp2_with fail
 refine Ca (v:=.agg #[I Z 1,I Z a]) (by simp[results,results246,go_sem,s0,s1]) rfl ?_;exact⟨rfl,E.o⟩
theorem Qfe(w:Bh)(pb B:Nat)(m:Qqp)(S:MS)(h:Z8 w pb B m S)(U:0<=mF m)(V:mF m<(mC m).length):
  Bq prog 244 #[.pointer (R ⟨pb,B,N⟩)] w λe w'=>e=.returned (.agg #[I Z 2,I Z (mF m)])/\Z8 w' pb B (Qj m (13,0,0,[],[])) (S.put (mF m) [])/\Q1 (λc=>c=pb\/c=S.cb) w w'/\Q9 pb B 5 w w':=by
 have o:=qh h;have J:Z8 (w.alloc (.cells #[I Z 0,I Z 0] 40)) pb B m S:=h.kept (by go_grown);have W:=qh J;have Y:D (Q1 (λc=>c=pb\/c=S.cb) w (w.alloc (.cells #[I Z 0,I Z 0] 40))):=qh ((Q1.refl _ _).alloc _);have a:=qh ((Q9.refl pb B 5 w).fr ((Q1.refl (λ_=>False) _).alloc (.cells #[I Z 0,I Z 0] 40)) (λh=>h));have K:=qh (Bg w (.cells #[I Z 0,I Z 0] 40));have G:D (w.heap.size≠pb/\w.heap.size≠S.cb/\∀b∈S.all,b≠w.heap.size):=qh (by
  have E:=h.lt;refine⟨λe=> ?_,λe=> ?_,λb F e=> ?_⟩
  ·have:=E pb Ae;omega
  ·have:=E S.cb (Aa _ Ae);omega
  ·have:=E b (Aa _ F);omega)
 clear h J;go_enter func244,ntmps244;go_upto_region 1 with fail
 generalize w.alloc (.cells #[I Z 0,I Z 0] 40)=W2 at *
 go_wp2_with(first|((go_at_call 242;(with_reducible refine(Qjr W2 pb B m S W.o 13 0 0 N N 0 0 0 0 (13,0,0,[],[]) [] U V (Ow.mkAgent (by unfold Qqm;omega) (by unfold Qqm;omega) (by unfold Qqm;omega) (Ow.nil _) (Ow.nil _)) (by simp) (by simp)).mono ?_);rintro e L ⟨rfl,E,H,M⟩;have d:=qh E;have f:=qh H;have g:=qh (a.o.trans M);clear M;have O:=(H.block w.heap.size (Al.1 K.o).1 (by rintro(e|e);exact G.o.1 e;exact G.o.2.1 e)).trans K.o;have i:=qh O;clear E H O))|((go_at_call 264;(with_reducible refine(Qj7 L (mF m)).mono ?_);rintro e j ⟨rfl,F⟩;have P:=qh (Qe i.o F);obtain⟨⟨p,q⟩,r⟩:=Za P.o;have k:=qh (d.o.kept F);have T:D (Q1 (λ_=>False) L j):=qh (Ay F);clear F))|fail)
 have l:=Vm P.o (I Z 2) (I Z (mF m));obtain⟨⟨s0,s1⟩,-⟩:=Za l;refine Ca (v:=.agg #[I Z 2,I Z (mF m)]) (by simp[results,results244,go_sem,s0,s1]) rfl ?_;have n:w.heap.size∉pb::(S.put (mF m) []).all:=by
  intro C;rcases Aq.1 C with e|C
  ·exact G.o.1 e
  ·rcases Zf C with C|C
   ·simp at C
   ·exact G.o.2.2 _ C rfl
 exact⟨rfl,k.o.set2 n _ _,Qav ((Y.o.trans f.o).trans (T.o.mono λ_ h=>h.elim)) (Aj _) _ _,(g.o.fr T.o (λh=>h)).fr (V1 (X:=λc=>c=w.heap.size) (Q1.refl _ _) rfl _ _) (Ne.symm G.o.1)⟩
theorem Qmf(w:Bh)(pb C:Nat)(m:Qqp)(S:MS)(h:Z8 w pb C m S)(a b:Int)(ha:Qqm a)(B:Qqm b)(L:(mX m).length<=1000000):
  Bq prog 248 #[.pointer (R ⟨pb,C,N⟩),I Z a,I Z b] w λe w'=>e=.returned (.tuple #[])/\∃Fx,Z8 w' pb C (Yu m a b) {S with Fx:=Fx}/\(∀b∈Fx,b∈S.Fx\/w.heap.size<=b)/\Q1 (λc=>c=pb\/c∈S.Fx) w w'/\Q9 pb C 5 w w':=by
 have M:=qh h;obtain⟨px,cx,g,O⟩:=h.redexes;have P:=qh O;have i:=qh L;have j:D (S.Fx.Nodup):=qh ((Qqn (Ar.1 (Ar.1 h.nodup).2).2).2.1);have H:D (pb∉S.Fx):=qh (λe=>(Ar.1 h.nodup).1 (Aa _ (At0.2 (.inr e))));have k:=λq=>h.blk.free q;have T:=h.blk.lt;clear h O L;obtain⟨l,n,o,p,r⟩:=info_parts J4;go_enter func248,ntmps248;go_wp2_with((at_builtin;refine Q0t _ rfl (.tmp 10) (.tmp 18) 41 rfl (e:=Q4) 117 l _ 16 underlying41 n o p r rfl (by decide) (v:=A px (mX m).length cx) (xs:=mX m) (y:=(min a b,max a b)) (vs:=[I Z (min a b),I Z (max a b)]) (F:=S.Fx) w.heap.size 1 rfl rfl (P.o.kept λb B=>Az _ _ _ (P.o.lt b B)) j.o (Ow.word (by unfold Qqm at *;omega) (by unfold Qqm at *;omega)) (Q5g (Q8 (Bg w _) rfl) (Q8 (Bg w _) rfl)) Qj1 (by have:=i.o;omega) ?_;intro U V w2 J W X Y d;have f:=qh W;have s:=qh X;have t:=qh Y;have G:=qh (Q1.trans (show Q1 (λc=>c∈S.Fx) w _ from(Q1.refl _ w).alloc _) d);have u:=(G.o.cell T H.o (C+4)).trans g;have xf:=λq=>(G.o.frozen T H.o q).trans (k q);clear W X Y d))
 all_goals
  go_end0
  have K:∀b∈J,b∈S.Fx\/w.heap.size<=b:=λb B=>(t.o b B).imp id λe=>by rw[e];simp
  have x:=M.o.lt;have z:∀b∈J,b≠pb:=λb B e=>(K b B).elim (λh=>H.o (e▸h)) λh=>by omega
  have f3:=Ze w2 pb (C+4) (A U ((mX m).length+1) V);refine⟨rfl,J,(M.o.turnX (xs:=mX m++ [(min a b,max a b)]) (px:=U) (cx:=V) (Fx:=J) ((G.o.mono λc E=> .inr E).trans (f3.mono λc E=> .inl E)) ((Q9.of_frame G.o H.o _ _).set (C+4) (by omega) _) ?_ ?_ s.o λb B=> ?_),λb B=> ?_,(G.o.mono λc E=> .inr E).trans (f3.mono λc E=> .inl E),(Q9.of_frame G.o H.o C 5).set (C+4) (by omega) _⟩
  ·rw[Bo];exact Bw _ _ _ u
  ·have:=f.o.frame f3 λb B=>⟨f.o.lt b B,z b B⟩
   rw[Bo];exact this
  ·refine(K b B).imp id λh hm=> ?_
   have:=x b hm;omega
  ·exact K b B
theorem Q4k{E w:Bh}{F S:MS}{pb C a:Nat}{m:Qqp}{l:List Nat}(h:Qk E F pb C w m S (a::l))(k H v:Int)(J K:Option Addr)(L M O P:Nat)(y:Qb)(G:List Nat)
  (V:Ow Q3 w [I Z k,I Z H,I Z v,A J L M,A K O P] y G) (W:G.Nodup) (X:∀b∈G,b∉pb::S.all) (Y:∀b∈G,E.heap.size<=b):
  Bq prog 242 #[.pointer (R ⟨pb,C,N⟩),.agg #[I Z k,I Z H,I Z v,A J L M,A K O P]] w λe w'=>e=.returned (I Z a)/\Qk E F pb C w' (Qj m y) (S.put a G) l/\Q1 (λc=>c=pb\/c=F.cb) w w':=by
 obtain⟨d,j,f⟩:=h.first y;refine(Qjr w pb C m S h.mem k H v J K L M O P y G (by omega) (by omega) V W X).mono ?_;rintro e w' ⟨rfl,U,T,g⟩;rw[d]at U⊢;rw[h.cb]at T;refine⟨rfl,⟨U,f,⟨h.fresh.1,h.fresh.2.1,h.fresh.2.2.1,λb B=> ?_⟩, ?_,h.pl,h.keep.trans g⟩,T⟩
 ·rcases Zf B with B|B
  ·exact .inr (Y b B)
  ·exact h.fresh.2.2.2 b B
 ·exact h.fr.trans (T.mono λc i=>i.imp id Q19)
theorem Q62{G w:Bh}{E S:MS}{pb C a:Nat}{m:Qqp}{l:List Nat}(h:Qk G E pb C w m S (a::l)):
  Bq prog 244 #[.pointer (R ⟨pb,C,N⟩)] w λe w'=>e=.returned (.agg #[I Z 2,I Z a])/\Qk G E pb C w' (Qv m) (S.put a []) l/\Q1 (λc=>c=pb\/c=E.cb) w w':=by
 obtain⟨J,O,K⟩:=h.first Z5;refine(Qfe w pb C m S h.mem (by omega) (by omega)).mono ?_;rintro e w' ⟨rfl,H,F,L⟩;rw[J]at H⊢;rw[h.cb]at F;refine⟨rfl,⟨H,K,⟨h.fresh.1,h.fresh.2.1,h.fresh.2.2.1,λb B=> ?_⟩, ?_,h.pl,h.keep.trans L⟩,F⟩
 ·rcases Zf B with B|B
  ·simp at B
  ·exact h.fresh.2.2.2 b B
 ·exact h.fr.trans (F.mono λc M=>M.imp id Q19)
theorem Qbl{G w:Bh}{E S:MS}{pb C:Nat}{m:Qqp}{l:List Nat}(h:Qk G E pb C w m S l)(i:Int)(H:0<=i)(J:i<(mC m).length)(K:i.toNat∉l):
  Bq prog 176 #[.pointer (R ⟨pb,C,N⟩),I Z i] w λe w'=>e=.returned (.tuple #[])/\Qk G E pb C w' (Qg m i) (S.put i []) (i.toNat::l)/\Q1 (λc=>c=pb\/c=E.cb) w w':=by
 refine(Q7n w pb C m S h.mem i H J).mono ?_;rintro e w' ⟨rfl,L,F,M⟩;rw[h.cb]at F;refine⟨rfl,⟨L,h.free.release H J K,⟨h.fresh.1,h.fresh.2.1,h.fresh.2.2.1,λb B=> ?_⟩, ?_,h.pl,h.keep.trans M⟩,F⟩
 ·rcases Zf B with B|B
  ·simp at B
  ·exact h.fresh.2.2.2 b B
 ·exact h.fr.trans (F.mono λc O=>O.imp id Q19)
theorem Qcf{E w:Bh}{F S:MS}{pb C:Nat}{m:Qqp}{l:List Nat}(h:Qk E F pb C w m S l)(a b:Int)(J:Qqm a)(K:Qqm b)(L:(mX m).length<=1000000):
  Bq prog 248 #[.pointer (R ⟨pb,C,N⟩),I Z a,I Z b] w λe w'=>e=.returned (.tuple #[])/\∃S',Qk E F pb C w' (Yu m a b) S' l/\Q3f w S S'/\Q1 (λc=>c=pb\/c∈S.Fx) w w':=by
 refine(Qmf w pb C m S h.mem a b J K L).mono ?_;rintro e w' ⟨rfl,Fx,M,O,G,P⟩;have H:Q3f w S {S with Fx:=Fx}:=⟨rfl,rfl,rfl,λc B=>by
  unfold MS.all at B⊢;simp only[List.mem_cons,List.mem_append]at B⊢;rcases B with B|B|B
  ·exact .inl (.inl B)
  ·exact .inl (.inr (.inl B))
  ·exact(O c B).imp (λh=> .inr (.inr h)) id⟩
 refine⟨rfl, {S with Fx:=Fx},h.step M (Qa7 h.free) H (G.mono λc B=>B.imp id λe=> ?_) P,H,G⟩;unfold MS.all;simp only[List.mem_cons,List.mem_append];exact .inr (.inr e)
end Go.Proofs.YthbpkpnioaniiaaGreat
