import Derived.Test.YthbpkpnioaniiaaGreatP10
set_option maxHeartbeats 40000000
set_option maxRecDepth 100000
set_option linter.all false
namespace Go.Proofs.YthbpkpnioaniiaaGreat
open Go.RowKit Go.Proofs.Tryz
open Go.Value renaming int->I,slice->A
open Go.IntKind renaming i64->Z
open Option renaming none->N,some->R
open Go renaming World->Bh,Value->Bk,Calls->Bq,maxLen->Bp,madeCells->Dh,bodyPost_ret->Ca,heap_alloc_new->Bg,info_parts->Ch
open Go.RowKit renaming Below->Bi,intOf->Bv
open List renaming replicate->Cl,length_cons->Bs,length_append->Bo
open Nat renaming reduceAdd->Bj,le_of_lt->Ep
theorem Q16{a w:Bh}{b o:Nat}{v:Bk}(h:Q1 (λc=>c=b) a w):Q1 (λc=>c=b) a (w.setCell ⟨b,o,N⟩ v):=h.setCell rfl v
theorem Q4y(M w:Bh)(b o:Nat)(m:Qqp)(r:Bi M.heap.size M w)(h:At Qo M b o m)(i:Int)(A9:0<=i)(s:i<(mC m).length)(O:(aW (Q7 (mC m) i)).length<=100000000):
  Bq prog 260 #[.pointer (R ⟨b,o,N⟩),I Z i] w λe w'=>∃(B:Option Addr) (C g:Nat),e=.returned (.agg #[I Z (aK (Q7 (mC m) i)),I Z (aL (Q7 (mC m) i)),I Z (aV (Q7 (mC m) i)),A B (aD (Q7 (mC m) i)).length C,A (R ⟨g,0,N⟩) ((aW (Q7 (mC m) i)).length+1) ((aW (Q7 (mC m) i)).length+1)])/\(Qqm (aK (Q7 (mC m) i))/\Qqm (aL (Q7 (mC m) i))/\Qqm (aV (Q7 (mC m) i)))/\Rd (.slice .int) M [A B (aD (Q7 (mC m) i)).length C] (aD (Q7 (mC m) i))/\Qqe Q4 185 w.heap.size w' (A (R ⟨g,0,N⟩) ((aW (Q7 (mC m) i)).length+1) ((aW (Q7 (mC m) i)).length+1)) (Cl ((aW (Q7 (mC m) i)).length+1) ((0:Int),(0:Int)))/\Bi w.heap.size w w':=by
 obtain⟨cs,f,⟨rt,ra⟩,xs⟩:=m;obtain⟨pc,cc,_,_,⟨P,-,-,-,-⟩,-,⟨t,hm,u⟩,-⟩:=h.mem;have s:i<cs.length:=s;have V:i.toNat<cs.length:=by omega
 obtain⟨b1,o1,rfl,Y⟩:=Rd.elem u i.toNat V;have HV:D (Q7 (mC (cs,f,(rt,ra),xs)) i=cs[i.toNat]):=by show Q7 cs i=_;rw[Q7,Qx V]
 have O:(aW cs[i.toNat]).length<=100000000:=by have:(aW (Q7 cs i)).length<=100000000:=O;rwa [Q7,Qx V]at this
 generalize cs[i.toNat]=x at *
 obtain⟨k,l,v,d,ws⟩:=x;simp only[Ty.sz,Bj]at Y;have O:ws.length<=100000000:=O;obtain⟨B,C,S,T,⟨U,a,j,n,p⟩,⟨y,z,j2⟩,⟨d1,d2,hd⟩,⟨w1,w2,-⟩⟩:=Y.agent;have HD:=qh hd;have HI:D (Qqm k/\Qqm l/\Qqm v):=qh (⟨y,z,j2⟩);unfold Bp at hm d2;have F:=Am r;replace P:=F.cell _ _ P;replace U:=F.cell _ _ U;replace a:=F.cell _ _ a;replace j:=F.cell _ _ j;replace n:=F.cell _ _ n;replace p:=F.cell _ _ p;clear F r;clear Y h u hd y z j2;have A0:=Ac w _ P;have A1:=Ac w _ U;simp only at A0 A1;go_enter func260,ntmps260;go_upto_region 2 with fail
 refine Qq ?_;intro W G;have A6:D (Bi w.heap.size w W):=qh (by rw[G];go_grown);obtain⟨k0,k1,k2,k3,k4⟩:W.cell? ⟨w.heap.size+1,0,N⟩=R (I Z k)/\W.cell? ⟨w.heap.size+1,1,N⟩=R (I Z l)/\W.cell? ⟨w.heap.size+1,2,N⟩=R (I Z v)/\W.cell? ⟨w.heap.size+1,3,N⟩=R (A B d.length C)/\W.cell? ⟨w.heap.size+1,4,N⟩=R (A S ws.length T):=by rw[G];have H:=(Jn w #[I Z 0,I Z 0,I Z 0,A N 0 0,A N 0 0] #[I Z k,I Z l,I Z v,A B d.length C,A S ws.length T] 128 134).2;exact⟨Q8 H rfl,Q8 H rfl,Q8 H rfl,Q8 H rfl,Q8 H rfl⟩
 have q:W.heap[w.heap.size]?=R (.cells #[I Z 0,I Z 0,I Z 0,A N 0 0,A N 0 0] 128 (0,0)):=by rw[G];exact(Jn w _ _ _ _).1
 have A7:=qh q;obtain⟨⟨r0,r1,r2,r3,r4⟩,rf⟩:=Y0 q;have A2:(ws.length:Int)+1=((ws.length+1:Nat):Int):=by omega
 have A3:=λW=>Qah W (ws.length+1) (by omega);have AA:∀W:Bh,(Instr.makeSlice 126 (I Z ((ws.length:Int)+1)) (I Z ((ws.length:Int)+1))).run prog W=.ok (A (R ⟨W.heap.size,0,N⟩) (ws.length+1) (ws.length+1)) (W.alloc (.cells (Dh (Value.agg #[I Z 0,I Z 0]).cells ((ws.length+1) * 2)) 185)):=λW=>by rw[A2];exact A3 W
 have AB:IntKind.i64.wrap ((ws.length:Int)+1)=(ws.length:Int)+1:=by simp only[IntKind.wrap_i64];omega
 have A8:D (∀W:Bh,Qqe Q4 185 W.heap.size (W.alloc (.cells (Dh (Value.agg #[I Z 0,I Z 0]).cells ((ws.length+1) * 2)) 185)) (A (R ⟨W.heap.size,0,N⟩) (ws.length+1) (ws.length+1)) (Cl (ws.length+1) ((0:Int),(0:Int)))):=qh (λW=>Q8n W _ (ws.length+1) (by omega));have A4:D (W.heap.size=w.heap.size+2):=qh (by rw[G];simp);have A5:w.heap.size<W.heap.size:=by have:=A4.o;omega
 have K:w.heap.size+1<W.heap.size:=by have:=A4.o;omega
 have HK:D (∀E,Q1 (λc=>c=w.heap.size) W E->E.cell? ⟨w.heap.size+1,0,N⟩=R (I Z k)/\E.cell? ⟨w.heap.size+1,1,N⟩=R (I Z l)/\E.cell? ⟨w.heap.size+1,2,N⟩=R (I Z v)/\E.cell? ⟨w.heap.size+1,3,N⟩=R (A B d.length C)/\E.cell? ⟨w.heap.size+1,4,N⟩=R (A S ws.length T)):=qh (λE J=>have L:¬(w.heap.size+1=w.heap.size):=by omega
  ⟨(J.cell K L _).trans k0,(J.cell K L _).trans k1,(J.cell K L _).trans k2,(J.cell K L _).trans k3,(J.cell K L _).trans k4⟩)
 clear G A3 A2 q P U a j n p A0 A1;generalize Dh (Value.agg #[I Z 0,I Z 0]).cells ((ws.length+1) * 2)=cur at *
 go_region_held3(λE=>E.cell? ⟨w.heap.size+1,0,N⟩=R (I Z k)/\E.cell? ⟨w.heap.size+1,1,N⟩=R (I Z l)/\E.cell? ⟨w.heap.size+1,2,N⟩=R (I Z v)/\E.cell? ⟨w.heap.size+1,3,N⟩=R (A B d.length C)/\E.cell? ⟨w.heap.size+1,4,N⟩=R (A S ws.length T))
  (((refine HK.o _ ?_);(repeat(first|with_reducible exact Q1.refl _ _|with_reducible apply Q1.drew|with_reducible apply Q1.alloc|with_reducible refine Q16 ?_)))) (first|fail)
 all_goals
  go_wp2_with fail
  have J:Q1 (λc=>c=w.heap.size) W (Qcz W w.heap.size 0 (I Z k) (I Z l) (I Z v) (A B d.length C) (A (R ⟨W.heap.size,0,N⟩) (ws.length+1) (ws.length+1))):=Vz _ _ _ _ _ _ _ _;have hs:=Q22 A7.o (I Z k) (I Z l) (I Z v) (A B d.length C) (A (R ⟨W.heap.size,0,N⟩) (ws.length+1) (ws.length+1));have hM:=A8.o (Qcz W w.heap.size 0 (I Z k) (I Z l) (I Z v) (A B d.length C) (A (R ⟨W.heap.size,0,N⟩) (ws.length+1) (ws.length+1)));have hz:(Qcz W w.heap.size 0 (I Z k) (I Z l) (I Z v) (A B d.length C) (A (R ⟨W.heap.size,0,N⟩) (ws.length+1) (ws.length+1))).heap.size=W.heap.size:=by simp[Qcz,World.setCell]
  rw[hz]at hM;have G:Bi w.heap.size w ((Qcz W w.heap.size 0 (I Z k) (I Z l) (I Z v) (A B d.length C) (A (R ⟨W.heap.size,0,N⟩) (ws.length+1) (ws.length+1))).alloc (.cells cur 185)).drew:=A6.o.trans (((J.alloc _).drew).below (Ep A5) (λc t=>Nat.le_of_eq t.symm));have H:=Qw hs (o':=.cells cur 185);refine Ca (v:=.agg #[I Z k,I Z l,I Z v,A B d.length C,A (R ⟨W.heap.size,0,N⟩) (ws.length+1) (ws.length+1)]) (by obtain⟨⟨s0,s1,s2,s3,s4⟩,-⟩:=Y0 H;simp[results,results260,go_sem,s0,s1,s2,s3,s4]) rfl ?_;rw[HV.o];exact⟨B,C,W.heap.size,rfl,HI.o,HD.o,((hM.lo (Ep A5)).frame (X:=λ_=>False) (Q1.refl _ _).drew (λ_ _ h=>h)),G⟩
theorem Qp6{w:Bh}{g:Nat}{x y:Qb}{B C E F G b0 H J K L:Bk}{T:TypeId}(h:w.heap[g]?=R (.cells #[B,C,E,F,G,b0,H,J,K,L] T (0,0)))(O:Rd Q3 w [B,C,E,F,G] x)(P:Rd Q3 w [b0,H,J,K,L] y):
  Rd (.slice Q3) w [A (R ⟨g,0,N⟩) 2 2] [x,y]:=by
 refine⟨_,rfl,.inr ⟨g,0,2,rfl,by simp,by simp[Bp],λi S=> ?_⟩⟩;match i,S with
 |0,_=>exact⟨[B,C,E,F,G],rfl,λj M=>(by match j,M with
  |0,_=>exact Q8 h rfl
  |1,_=>exact Q8 h rfl
  |2,_=>exact Q8 h rfl
  |3,_=>exact Q8 h rfl
  |4,_=>exact Q8 h rfl),O⟩
 |1,_=>exact⟨[b0,H,J,K,L],rfl,λj M=>(by match j,M with
  |0,_=>exact Q8 h rfl
  |1,_=>exact Q8 h rfl
  |2,_=>exact Q8 h rfl
  |3,_=>exact Q8 h rfl
  |4,_=>exact Q8 h rfl),P⟩
def Qi4(m:Qqp)(p q:Int):List Qb:=[Z7 (Q7 (mC m) p),Z7 (Q7 (mC m) q)]
theorem Qls(w:Bh)(b o:Nat)(m:Qqp)(h:At Qo w b o m)(p q:Int)(r:Qq9 (mC m) (p,q))(y:(aW (Q7 (mC m) p)).length<=100000000)(z:(aW (Q7 (mC m) q)).length<=100000000):
  Bq prog 237 #[.pointer (R ⟨b,o,N⟩),.agg #[I Z p,I Z q]] w λe w'=>∃vs:List Bk,e=.returned (.agg vs.toArray)/\Rd Je w' vs (Qi4 m p q)/\Bi w.heap.size w w':=by
 have X:=qh h;have Y:=qh r.1;have a:=qh r.2;have A0:=qh y;have A1:=qh z;clear h r y z;go_enter func237,ntmps237;go_upto_region 1 with fail
 refine Qq ?_;intro W J;have P:D (Bi w.heap.size w W):=qh (by rw[J];go_grown);have d:=Jn w #[I Z p,I Z q] #[A N 0 0] 117 71;rw[<-J]at d;have A8:=qh d.1;have A2:=qh d.2;obtain⟨⟨k0,k1⟩,-⟩:=Za A8.o;have f:D (W.heap.size=w.heap.size+2):=qh (by rw[J];simp);have A3:w.heap.size+1<W.heap.size:=by have:=f.o;omega
 have HK:D (∀K,Q1 (λc=>c=w.heap.size+1) W K->K.cell? ⟨w.heap.size,0,N⟩=R (I Z p)/\K.cell? ⟨w.heap.size,1,N⟩=R (I Z q)):=qh (λK g=>⟨(g.cell (by have:=f.o;omega) (by omega) _).trans k0,(g.cell (by have:=f.o;omega) (by omega) _).trans k1⟩);clear J d;have O:D (Bi W.heap.size W W.drew):=qh ((Ai _ _).drew)
 go_region_held3(λK=>K.cell? ⟨w.heap.size,0,N⟩=R (I Z p)/\K.cell? ⟨w.heap.size,1,N⟩=R (I Z q))
  (((refine HK.o _ ?_);(repeat(first|with_reducible exact s.o|with_reducible exact A9.o|with_reducible exact AA.o|with_reducible exact Q1.refl _ _|with_reducible apply Q1.drew|with_reducible apply Q1.alloc|with_reducible refine Q16 ?_)))) (first|((go_at_call 260;(with_reducible refine(Q4y w _ b o m (Q0 P.o j.o) X.o q a.o.1 a.o.2 A1.o).mono ?_);rintro e B ⟨S,T,gb,rfl,E,F,G,C⟩;have k:=qh E;have A4:=qh F;have t:=qh (G.lo (show W.heap.size<=_ from j.o.size));have u:=qh ((AB.o.lo (show W.heap.size<=_ from O.o.size)).kept C);clear E F G;have L:=trivial;have M:=qh (Q0 j.o C);have s:D (Q1 (λc=>c=w.heap.size+1) W B):=qh (Ay M.o);have H:=Qe A2.o M.o;have A5:w.heap.size+1<B.heap.size:=Ap A3 M.o.size;have r0:B.cell? ⟨w.heap.size+1,0,N⟩=R (A N 0 0):=Q8 H rfl;have rf:B.frozen? ⟨w.heap.size+1,0,N⟩=false:=Q0f.free ⟨_,H⟩ 0;have AC:=qh H;clear L C H))|((go_at_call 260;(with_reducible refine(Q4y w _ b o m (Q0 P.o l.o) X.o p Y.o.1 Y.o.2 A0.o).mono ?_);rintro e B ⟨U,V,ga,rfl,E,F,G,C⟩;have n:=qh E;have A6:=qh F;have u:=qh (G.lo (show W.heap.size<=_ from l.o.size));have t:=qh ((AD.o.lo (show W.heap.size<=_ from O.o.size)).kept C);clear E F G;have L:=trivial;have M:=qh (Q0 l.o C);have s:D (Q1 (λc=>c=w.heap.size+1) W B):=qh (Ay M.o);have H:=Qe A2.o M.o;have A5:w.heap.size+1<B.heap.size:=Ap A3 M.o.size;have r0:B.cell? ⟨w.heap.size+1,0,N⟩=R (A N 0 0):=Q8 H rfl;have rf:B.frozen? ⟨w.heap.size+1,0,N⟩=false:=Q0f.free ⟨_,H⟩ 0;have AC:=qh H;clear L C H))|((go_at_call 260;(with_reducible refine(Q4y w _ b o m (Q0 P.o O.o) X.o p Y.o.1 Y.o.2 A0.o).mono ?_);rintro e w1 ⟨U,V,ga,rfl,E,F,G,C⟩;have n:=qh E;have A6:=qh F;have AB:=qh G;clear E F G;have L:=trivial;have j:=qh (Q0 O.o C);have A9:D (Q1 (λc=>c=w.heap.size+1) W w1):=qh (Ay j.o);clear L C))|((go_at_call 260;(with_reducible refine(Q4y w _ b o m (Q0 P.o O.o) X.o q a.o.1 a.o.2 A1.o).mono ?_);rintro e w2 ⟨S,T,gb,rfl,E,F,G,C⟩;have k:=qh E;have A4:=qh F;have AD:=qh G;clear E F G;have L:=trivial;have l:=qh (Q0 O.o C);have AA:D (Q1 (λc=>c=w.heap.size+1) W w2):=qh (Ay l.o);clear L C))|fail)
 all_goals
  go_wp2_with fail
  have hS:(B.setCell ⟨w.heap.size+1,0,N⟩ (A (R ⟨B.heap.size,0,N⟩) 2 2)).heap.size=B.heap.size:=by simp[World.setCell]
  have C:=Bg (B.setCell ⟨w.heap.size+1,0,N⟩ (A (R ⟨B.heap.size,0,N⟩) 2 2)) (.cells #[I Z (aK (Q7 (mC m) p)),I Z (aL (Q7 (mC m) p)),I Z (aV (Q7 (mC m) p)),A U (aD (Q7 (mC m) p)).length V,A (R ⟨ga,0,N⟩) ((aW (Q7 (mC m) p)).length+1) ((aW (Q7 (mC m) p)).length+1),I Z (aK (Q7 (mC m) q)),I Z (aL (Q7 (mC m) q)),I Z (aV (Q7 (mC m) q)),A S (aD (Q7 (mC m) q)).length T,A (R ⟨gb,0,N⟩) ((aW (Q7 (mC m) q)).length+1) ((aW (Q7 (mC m) q)).length+1)] 128);rw[hS]at C;have g:=(Q16 (o:=0) (v:=(A (R ⟨B.heap.size,0,N⟩) 2 2)) s.o).alloc (.cells #[I Z (aK (Q7 (mC m) p)),I Z (aL (Q7 (mC m) p)),I Z (aV (Q7 (mC m) p)),A U (aD (Q7 (mC m) p)).length V,A (R ⟨ga,0,N⟩) ((aW (Q7 (mC m) p)).length+1) ((aW (Q7 (mC m) p)).length+1),I Z (aK (Q7 (mC m) q)),I Z (aL (Q7 (mC m) q)),I Z (aV (Q7 (mC m) q)),A S (aD (Q7 (mC m) q)).length T,A (R ⟨gb,0,N⟩) ((aW (Q7 (mC m) q)).length+1) ((aW (Q7 (mC m) q)).length+1)] 128);have A7:=(Q16 (o:=0) (v:=(A (R ⟨B.heap.size,0,N⟩) 2 2)) (Q1.refl (λc=>c=w.heap.size+1) B)).alloc (.cells #[I Z (aK (Q7 (mC m) p)),I Z (aL (Q7 (mC m) p)),I Z (aV (Q7 (mC m) p)),A U (aD (Q7 (mC m) p)).length V,A (R ⟨ga,0,N⟩) ((aW (Q7 (mC m) p)).length+1) ((aW (Q7 (mC m) p)).length+1),I Z (aK (Q7 (mC m) q)),I Z (aL (Q7 (mC m) q)),I Z (aV (Q7 (mC m) q)),A S (aD (Q7 (mC m) q)).length T,A (R ⟨gb,0,N⟩) ((aW (Q7 (mC m) q)).length+1) ((aW (Q7 (mC m) q)).length+1)] 128);have J:=P.o.trans (g.below (Ep (by have:=f.o;omega)) (λc hc=>by have h:c=w.heap.size+1:=hc;omega));have s0:((B.setCell ⟨w.heap.size+1,0,N⟩ (A (R ⟨B.heap.size,0,N⟩) 2 2)).alloc (.cells #[I Z (aK (Q7 (mC m) p)),I Z (aL (Q7 (mC m) p)),I Z (aV (Q7 (mC m) p)),A U (aD (Q7 (mC m) p)).length V,A (R ⟨ga,0,N⟩) ((aW (Q7 (mC m) p)).length+1) ((aW (Q7 (mC m) p)).length+1),I Z (aK (Q7 (mC m) q)),I Z (aL (Q7 (mC m) q)),I Z (aV (Q7 (mC m) q)),A S (aD (Q7 (mC m) q)).length T,A (R ⟨gb,0,N⟩) ((aW (Q7 (mC m) q)).length+1) ((aW (Q7 (mC m) q)).length+1)] 128)).cell? ⟨w.heap.size+1,0,N⟩=R (A (R ⟨B.heap.size,0,N⟩) 2 2):=by rw[World.cell?_alloc_lt _ _ _ (by rw[hS];exact A5)];exact World.cell?_setCell_same _ _ _ r0
  have hA:=u.o.frame A7 (λi x e=>by have h1:=(u.o.block i x).1;have h2:i=w.heap.size+1:=e;omega);have hB:=t.o.frame A7 (λi x e=>by have h1:=(t.o.block i x).1;have h2:i=w.heap.size+1:=e;omega);refine Ca (v:=.agg #[A (R ⟨B.heap.size,0,N⟩) 2 2]) (by simp[results,results237,go_sem,s0]) rfl ?_;refine⟨[_],rfl, ?_,J⟩;exact Qp6 C (Q4l n.o.1 n.o.2.1 n.o.2.2 (A6.o.kept (Am J)) (hA.rd rfl)) (Q4l k.o.1 k.o.2.1 k.o.2.2 (A4.o.kept (Am J)) (hB.rd rfl))
def Vr(x y:Qb):Int×Bool:=
 if V2 (aK x) (aL x) (aK y) (aL y)=2 then(if Yx (aK x) (aL x) (aK y) (aL y)=6/\aK x=10/\((aD x).length:Int)<=aV y then(8,false)else(Yx (aK x) (aL x) (aK y) (aL y),true))
 else(if Yx (aK x) (aL x) (aK y) (aL y)=6/\aK y=10/\((aD y).length:Int)<=aV x then(8,false)else(Yx (aK x) (aL x) (aK y) (aL y),false))
theorem Qem(w:Bh)(b o:Nat)(n:List Qb)(h:At Je w b o n)(p q:Int)(hp:(0<=p/\p<n.length)/\(0<=q/\q<n.length)):
  Bq prog 240 #[.pointer (R ⟨b,o,N⟩),.agg #[I Z p,I Z q]] w λe w'=>e=.returned (.tuple #[I Z (Vr (Q7 n p) (Q7 n q)).1,.bool (Vr (Q7 n p) (Q7 n q)).2])/\Bi w.heap.size w w':=by
 obtain⟨pn,cn,M,n1,n2,t⟩:=h.net;obtain⟨⟨p0,p1⟩,⟨q0,q1⟩⟩:=hp;have A3:p.toNat<n.length:=by omega
 have A4:q.toNat<n.length:=by omega
 obtain⟨B,E,rfl,u⟩:=Rd.elem t p.toNat A3;obtain⟨b2,o2,A5,z⟩:=Rd.elem t q.toNat A4;simp only[Option.some.injEq,Addr.mk.injEq,and_true]at A5;obtain⟨rfl,rfl⟩:=A5;have AB:D (Q7 n p=n[p.toNat]):=qh (by rw[Q7,Qx A3]);have AC:D (Q7 n q=n[q.toNat]):=qh (by rw[Q7,Qx A4]);generalize n[p.toNat]=x at *
 generalize n[q.toNat]=y at *
 obtain⟨k,l,v,d,ws⟩:=x;obtain⟨J,K,T,U,A0⟩:=y;simp only[Ty.sz,Bj]at u z;obtain⟨pd,cd,pw,cw,⟨V,X,Y,a,c⟩,-,⟨-,d2,-⟩,-⟩:=u.agent;obtain⟨qd,dd,qw,dw,⟨f,i,j,m,r⟩,-,⟨-,f2,-⟩,-⟩:=z.agent;unfold Bp at n2 d2 f2;clear u z h t
 have HS:D (∀W,Bi w.heap.size w W->W.cell? ⟨b,o,N⟩=R (A (R ⟨B,E,N⟩) n.length cn)/\W.cell? ⟨B,E+p.toNat * 5,N⟩=R (I Z k)/\W.cell? ⟨B,E+p.toNat * 5+1,N⟩=R (I Z l)/\W.cell? ⟨B,E+p.toNat * 5+2,N⟩=R (I Z v)/\W.cell? ⟨B,E+p.toNat * 5+3,N⟩=R (A pd d.length cd)/\W.cell? ⟨B,E+p.toNat * 5+4,N⟩=R (A pw ws.length cw)/\W.cell? ⟨B,E+q.toNat * 5,N⟩=R (I Z J)/\W.cell? ⟨B,E+q.toNat * 5+1,N⟩=R (I Z K)/\W.cell? ⟨B,E+q.toNat * 5+2,N⟩=R (I Z T)/\W.cell? ⟨B,E+q.toNat * 5+3,N⟩=R (A qd U.length dd)/\W.cell? ⟨B,E+q.toNat * 5+4,N⟩=R (A qw A0.length dw)):=qh (λW O=>have H:=Am O
  ⟨H.cell _ _ M,H.cell _ _ V,H.cell _ _ X,H.cell _ _ Y,H.cell _ _ a,H.cell _ _ c,H.cell _ _ f,H.cell _ _ i,H.cell _ _ j,H.cell _ _ m,H.cell _ _ r⟩)
 have AD:=Ac w _ M;simp only at AD;clear M V X Y a c f i j m r;go_enter func240,ntmps240;go_upto_region 1 with fail
 refine Qq ?_;intro W s;have A1:D (Bi w.heap.size w W):=qh (by rw[s];go_grown);have A2:W.heap[w.heap.size]?=R (.cells #[I Z p,I Z q] 117 (0,0)):=by rw[s];exact Bg w _
 have AG:=qh A2;obtain⟨⟨k0,k1⟩,-⟩:=Za A2;have A6:D (W.heap.size=w.heap.size+1):=qh (by rw[s];simp);have AE:D (∀G,Bi W.heap.size W G->(G.cell? ⟨w.heap.size,0,N⟩=R (I Z p)/\G.cell? ⟨w.heap.size,1,N⟩=R (I Z q))/\_):=qh (λG O=>⟨⟨(Am O).cell _ _ k0,(Am O).cell _ _ k1⟩,HS.o G (Q0 A1.o O)⟩);obtain⟨M,V,X,Y,a,c,f,i,j,m,r⟩:=HS.o W A1.o;clear s A2;go_cut [6,7] (λx y wx=>∃(L g:Nat),x=.pointer (R ⟨L,0,N⟩)/\y=.pointer (R ⟨g,0,N⟩)/\L≠g/\(W.heap.size<=L/\W.heap.size<=g)/\wx.heap[L]?=R (.cells #[I Z k,I Z l,I Z v,A pd d.length cd,A pw ws.length cw] 128 (0,0))/\wx.heap[g]?=R (.cells #[I Z J,I Z K,I Z T,A qd U.length dd,A qw A0.length dw] 128 (0,0))/\Bi W.heap.size W wx)
 case first=>
  go_region_held3(λG=>(G.cell? ⟨w.heap.size,0,N⟩=R (I Z p)/\G.cell? ⟨w.heap.size,1,N⟩=R (I Z q))/\G.cell? ⟨b,o,N⟩=R (A (R ⟨B,E,N⟩) n.length cn)/\G.cell? ⟨B,E+p.toNat * 5,N⟩=R (I Z k)/\G.cell? ⟨B,E+p.toNat * 5+1,N⟩=R (I Z l)/\G.cell? ⟨B,E+p.toNat * 5+2,N⟩=R (I Z v)/\G.cell? ⟨B,E+p.toNat * 5+3,N⟩=R (A pd d.length cd)/\G.cell? ⟨B,E+p.toNat * 5+4,N⟩=R (A pw ws.length cw)/\G.cell? ⟨B,E+q.toNat * 5,N⟩=R (I Z J)/\G.cell? ⟨B,E+q.toNat * 5+1,N⟩=R (I Z K)/\G.cell? ⟨B,E+q.toNat * 5+2,N⟩=R (I Z T)/\G.cell? ⟨B,E+q.toNat * 5+3,N⟩=R (A qd U.length dd)/\G.cell? ⟨B,E+q.toNat * 5+4,N⟩=R (A qw A0.length dw))
   (((refine AE.o _ ?_);go_grown)) (first|fail)
  all_goals(go_wp2_with fail;go_meet)
  ·exact⟨_,_,rfl,rfl,by omega,⟨by omega,by omega⟩,(Jn W _ _ _ _).1,(Jn W _ _ _ _).2,by go_grown⟩
  ·exact⟨_,_,rfl,rfl,by omega,⟨by omega,by omega⟩,(Jn W _ _ _ _).2,(Jn W _ _ _ _).1,by go_grown⟩
 case rest=>
  obtain⟨L,g,rfl,rfl,AH,⟨AI,AJ⟩,hx,hy,A7⟩:=hcut;have HB:=qh A7;have HX:=qh hx;have HY:=qh hy;obtain⟨⟨x0,x1,x2,x3,x4⟩,xf⟩:=Y0 hx;obtain⟨⟨y0,y1,y2,y3,y4⟩,yf⟩:=Y0 hy;clear hx hy A7;obtain⟨C,hC⟩:∃C,Yx k l J K=C:=⟨_,rfl⟩;obtain⟨F,hF⟩:∃F,V2 k l J K=F:=⟨_,rfl⟩;have A8:=qh hC;have A9:=qh hF;have HV:D (Vr (Q7 n p) (Q7 n q)=(if F=2 then(if C=6/\k=10/\(d.length:Int)<=T then(8,false)else(C,true))else(if C=6/\J=10/\(U.length:Int)<=v then(8,false)else(C,false)))):=qh (by rw[AB.o,AC.o,<-hC,<-hF];rfl);clear hC hF M V X Y a c f i j m r k0 k1;have AA:=qh (Q0 A1.o HB.o);have P:w.heap.size<=L:=by have:=A6.o;omega
  have S:w.heap.size<=g:=by have:=A6.o;omega
  by_cases AF:F=2
  ·subst AF
   go_wp2_with((go_at_call 262;(with_reducible refine(Qdu _ k l J K).mono ?_);rintro e w1 ⟨rfl,rfl⟩;rw[A8.o,A9.o]))
   all_goals
    go_ret2
    refine⟨?_, ?_⟩
    ·rw[HV.o];simp_all<;>first|omega|(rw[if_neg (by omega)];exact⟨rfl,rfl⟩)
    ·exact((((((((((AA.o.setCell P _).setCell P _).setCell P _).setCell P _).setCell P _).setCell S _).setCell S _).setCell S _).setCell S _).setCell S _)
  ·go_wp2_with((go_at_call 262;(with_reducible refine(Qdu _ k l J K).mono ?_);rintro e w1 ⟨rfl,rfl⟩;rw[A8.o,A9.o]))
   all_goals
    go_ret2
    refine⟨?_,AA.o⟩;rw[HV.o];simp_all<;>first|omega|(rw[if_neg (by omega)];exact⟨rfl,rfl⟩)
theorem Qp8{ka la lb:Int}(h:V9 ka la 10 lb=6):ka=9:=by
 unfold V9 at h;repeat' split at h
 all_goals simp_all
theorem Qk4(lb ka la:Int)(h:ka≠1):V9 10 lb ka la=0:=by simp[V9]
theorem Qhb(la lb:Int):V9 9 la 10 lb=6:=by simp[V9]
theorem Qlw(x y:Qb)(L:Zy (aK x) (aL x)=true)(M:Zy (aK y) (aL y)=true):(Vr x y).1=Q1v x y/\((Vr x y).1≠8->(Vr x y).2=decide (V2 (aK x) (aL x) (aK y) (aL y)=2)):=by
 unfold Vr Q1v;generalize aK x=k at *
 generalize aK y=k' at *
 generalize aL x=l at *
 generalize aL y=l' at *
 generalize aV x=v;generalize aV y=v';generalize ((aD x).length:Int)=dl;generalize ((aD y).length:Int)=el;by_cases F:k=9/\k'=10
 ·obtain⟨rfl,rfl⟩:=F
  have E:Q4t 9 l 10 l'=true:=by simp[Q4t,L,M]
  have B:V2 9 l 10 l'=1:=by simp[V2,E,Qhb]
  have G:Yx 9 l 10 l'=6:=by simp[Yx,E,Qhb]
  by_cases H:el<=v<;>simp[B,G,H]
 by_cases J:k=10/\k'=9
 ·obtain⟨rfl,rfl⟩:=J
  have E:Q4t 10 l 9 l'=true:=by simp[Q4t,L,M]
  have B:V2 10 l 9 l'=2:=by simp[V2,E,Qhb,Qk4]
  have G:Yx 10 l 9 l'=6:=by simp[Yx,E,Qhb,Qk4]
  by_cases H:dl<=v'<;>simp[B,G,H]
 ·have O:(k==9 && (k'==10 && decide (el<=v)))=false:=by
   cases he:(k==9 && (k'==10 && decide (el<=v)))with
   |false=>rfl
   |true=>simp at he;exact absurd ⟨he.1,he.2.1⟩ F
  have P:(k==10 && (k'==9 && decide (dl<=v')))=false:=by
   cases he:(k==10 && (k'==9 && decide (dl<=v')))with
   |false=>rfl
   |true=>simp at he;exact absurd ⟨he.1,he.2.1⟩ J
  by_cases B:V2 k l k' l'=2
  ·have K:¬(Yx k l k' l'=6/\k=10/\dl<=v'):=by
    rintro⟨C,rfl,-⟩;unfold V2 at B;unfold Yx at C;split at B<;>simp_all
    split at B<;>simp_all
    exact J (Qp8 C)
   simp only[O,P,if_pos B,if_neg K];simp[B]
  ·have K:¬(Yx k l k' l'=6/\k'=10/\el<=v):=by
    rintro⟨C,rfl,-⟩;unfold Yx at C;split at C
    ·split at C
     ·exact F ⟨Qp8 C,rfl⟩
     ·split at C
      ·rename_i q1 S T
       exact B (by simp[V2,q1]at *;simp_all)
      ·omega
    ·omega
   simp only[O,P,if_neg B,if_neg K];simp[B]
theorem Q8t(w:Bh)(b o:Nat)(m:Qqp)(h:At Qo w b o m)(S:(Z6 m).length<=100000000):
  Bq prog 165 #[.pointer (R ⟨b,o,N⟩)] w λe w'=>∃v,e=.returned v/\Qqe Q4 40 w.heap.size w' v (Z6 m)/\Bi w.heap.size w w':=by
 obtain⟨cs,f,⟨B,C⟩,xs⟩:=m;obtain⟨pc,cc,_,_,⟨c0,-,c2,c3,-⟩,⟨-,T,U⟩,⟨hc,hm,V⟩,-⟩:=h.mem;unfold Bp at hm;have HC:=qh V;have W:D (((B,C)::cs.flatMap aW).length<=100000000):=qh (S);have HI:=qh (And.intro T U);have A0:=Ac w _ c0;simp only at A0;clear V h S T U;obtain⟨i0,A1,A2,A3,A4⟩:=Ch Vx;go_enter func165,ntmps165;go_wp2_with fail
 have X:=qh (Qqe.of_block (t:=Q4) (xs:=[(B,C)]) (Bg w (.cells #[I Z B,I Z C] 40)) (Aj _) rfl rfl (λx G=>by have:x=(B,C):=Bb.1 G;rw[this];exact HI.o) (by simp[Bp]));go_loopw [3,16] (λu i wr=>∃(j:Nat),j<=cs.length/\i=I Z j/\D (Qqe Q4 40 w.heap.size wr u ((B,C)::(cs.take j).flatMap aW))/\D (Bi w.heap.size w wr)) (λ_ i _=>cs.length-(Bv i).toNat);case atStart=>exact⟨0,Ak _,rfl,X.o,(show Bi w.heap.size w _ by go_grown)⟩
 case round=>
  obtain⟨j,hj,rfl,E,H⟩:=hrel;clear X c2 c3;obtain⟨P,J⟩:∃P:List (Int×Int),P=(B,C)::(cs.take j).flatMap aW:=⟨_,rfl⟩;rw[<-J]at E;have K:=qh J;have HL:D (P.length<=100000000):=qh (by rw[J];have:=Zz (f:=aW) cs j;have:=W.o;simp only[Bs]at *;omega);clear J;obtain⟨pu,cu,rfl,AB,AC⟩:=E.o.form;by_cases Y:j<cs.length
  ·obtain⟨b1,o1,rfl,L⟩:=Rd.elem (HC.o.kept (Am H.o)) j Y
   generalize G:cs[j]=x at L;obtain⟨k,l,v,d,ws⟩:=x;have HX:=qh G;clear G;obtain⟨pd,cd,pw,cw,⟨M,a,c,g,n⟩,-,-,⟨w1,w2,p⟩⟩:=L.agent;simp only[Ty.sz,Bj]at M a c g n;have HW:=qh p;clear p L;have q:D ((cs.take (j+1)).flatMap aW=(cs.take j).flatMap aW++ws):=qh (by rw[Yj Y,HX.o];rfl);have A5:D (P.length+ws.length<=100000000):=qh (by have:=Zz (f:=aW) cs (j+1);have h2:=W.o;rw[q.o]at this;rw[K.o];simp only[Bs,Bo]at *;omega);have A6:w.heap.size<=wr.heap.size:=H.o.size;have A7:=Ac wr _ M;simp only at A7;go_upto_region 5 with fail
   refine Qq ?_;intro r O;have F:D (Bi wr.heap.size wr r):=qh (by rw[O];go_grown);obtain⟨g0,g1,g2,g3,g4⟩:=Q0n wr (I Z k) (I Z l) (I Z v) (A pd d.length cd) (A pw ws.length cw) 134;rw[<-O]at g0 g1 g2 g3 g4;clear O M a c g n;have s:w.heap.size<=r.heap.size:=Au A6 F.o.size;go_wp2_with(at_builtin;refine Qi _ rfl (.tmp 20) (.tmp 22) 132 rfl (t:=Q4) (v:=A pu P.length cu) (xs:=P) (ys:=ws) rfl (by decide) w.heap.size 40 i0 _ 16 underlying132 A1 A2 A3 A4 rfl (by decide) rfl rfl (E.o.kept F.o) (HW.o.kept (Am F.o)) (by have:=A5.o;omega) s ?_;intro v1 w1 y z;have A8:=qh z;have A9:=qh y;clear y z)
   go_roundw;case rel=>exact⟨j+1,by omega,by go_num,A9.o.eqL (by rw[K.o,q.o];rfl),(E.o.kept F.o).grew (Q0 H.o F.o) s A8.o⟩
   case measure=>simp[Bv];omega
  ·have AA:cs.length<=j:=by omega
   go_wp2_with fail
   go_ret;refine⟨_,rfl,E.o.eqL ?_,H.o⟩;rw[K.o,Ao AA];rfl
theorem Rd.workerV{w:Bh}{vs:List Bk}{H J:Int}{xs:List Wd}{B:List Qqt}{cs:List Int}(h:Rd Qc w vs (H,J,xs,B,cs)):
  ∃(px:Option Addr) (cx:Nat) (F:Option Addr) (C:Nat) (G:Option Addr) (E:Nat),vs=[I Z H,I Z J,A px xs.length cx,A F B.length C,A G cs.length E]/\(Qqm H/\Qqm J)/\
   (xs.length<=cx/\xs.length<=Bp/\Rd (.slice Q4) w [A px xs.length cx] xs)/\(B.length<=C/\B.length<=Bp/\Rd (.slice Qu) w [A F B.length C] B)/\(cs.length<=E/\cs.length<=Bp/\Rd (.slice .int) w [A G cs.length E] cs):=by
 obtain⟨_,_,rfl,⟨rfl,O⟩,_,_,rfl,⟨rfl,P⟩,_,_,rfl,K,_,_,rfl,L,M⟩:=h;obtain⟨px,cx,rfl,x1,x2,K⟩:=J6 K;obtain⟨F,C,rfl,l1,l2,L⟩:=J6 L;obtain⟨G,E,rfl,S,T,M⟩:=J6 M;exact⟨px,cx,F,C,G,E,rfl,⟨O,P⟩,⟨x1,x2,K⟩,⟨l1,l2,L⟩,⟨S,T,M⟩⟩
theorem At.rdvW{w:Bh}{b o:Nat}{C E:Int}{xs:List Wd}{B:List Qqt}{cs:List Int}{px J K:Option Addr}{cx L M:Nat}(h:At Qc w b o (C,E,xs,B,cs))(F:w.cell? ⟨b,o+2,N⟩=R (A px xs.length cx))(G:w.cell? ⟨b,o+3,N⟩=R (A J B.length L))(H:w.cell? ⟨b,o+4,N⟩=R (A K cs.length M)):
  Rd Qc w [I Z C,I Z E,A px xs.length cx,A J B.length L,A K cs.length M] (C,E,xs,B,cs):=by
 obtain⟨us,U,r,O⟩:=h;obtain⟨V,W,X,Y,a,c,rfl,-⟩:=O.workerV;obtain⟨-,-,P,S,T⟩:=Q4b r;rw[P]at F;rw[S]at G;rw[T]at H;simp only[Option.some.injEq]at F G H;rw[<-F,<-G,<-H];exact O
theorem Qhg(w:Bh)(b o:Nat)(p:J9)(h:At Qr w b o p)(O:(Qz (pW p)).length<=100000000):
  Bq prog 111 #[.pointer (R ⟨b,o,N⟩)] w λe w'=>∃v,e=.returned v/\Qqe Q4 117 w.heap.size w' v (Qz (pW p))/\Bi w.heap.size w w':=by
 obtain⟨m,C,ac⟩:=p;obtain⟨-,AA,AB,⟨q,-⟩,-,⟨hc,r,S⟩⟩:=h.pool;unfold Bp at r;have s:=qh S;have T:D ((C.flatMap wX).length<=100000000):=qh (O);have y:=Ac w _ q;simp only at y;clear S h O;obtain⟨z,A0,A1,A2,A3⟩:=Ch J4;go_enter func111,ntmps111;go_wp2_with fail
 have U:=qh (Qqe.nil (t:=Q4) (e:=117) (B:=w.heap.size) (w:=w));go_loopw [3,11] (λu i wr=>∃(j:Nat),j<=C.length/\i=I Z j/\D (Qqe Q4 117 w.heap.size wr u ((C.take j).flatMap wX))/\D (Bi w.heap.size w wr)) (λ_ i _=>C.length-(Bv i).toNat);case atStart=>exact⟨0,Ak _,rfl,U.o,Ai _ _⟩
 case round=>
  obtain⟨j,hj,rfl,E,G⟩:=hrel;clear U;obtain⟨P,H⟩:∃P:List (Int×Int),P=(C.take j).flatMap wX:=⟨_,rfl⟩;rw[<-H]at E;have J:=qh H;have HL:D (P.length<=100000000):=qh (by rw[H];have:=Zz (f:=wX) C j;have:=T.o;omega);clear H;obtain⟨pu,cu,rfl,AC,AD⟩:=E.o.form;by_cases V:j<C.length
  ·obtain⟨b1,o1,rfl,K⟩:=Rd.elem (s.o.kept (Am G.o)) j V
   generalize hx:C[j]=x at K;obtain⟨ph,vi,xs,ls,cs⟩:=x;have HX:=qh hx;clear hx;obtain⟨px,cx,pl,cl,pc,cc,⟨L,W,X,Y,a⟩,-,⟨w1,w2,c⟩,-,-⟩:=K.worker;simp only[Ty.sz,Bj]at L W X Y a;have HW:=qh c;clear c K;have d:D ((C.take (j+1)).flatMap wX=(C.take j).flatMap wX++xs):=qh (by rw[Yj V,HX.o];rfl);have A4:D (P.length+xs.length<=100000000):=qh (by have:=Zz (f:=wX) C (j+1);have h2:=T.o;rw[d.o]at this;rw[J.o];simp only[Bo]at *;omega);have A5:w.heap.size<=wr.heap.size:=G.o.size;have A6:=Ac wr _ L;simp only at A6;go_upto_region 5 with fail
   refine Qq ?_;intro g M;have F:D (Bi wr.heap.size wr g):=qh (by rw[M];go_grown);obtain⟨g0,g1,g2,g3,g4⟩:=Q0n wr (I Z ph) (I Z vi) (A px xs.length cx) (A pl ls.length cl) (A pc cs.length cc) 99;rw[<-M]at g0 g1 g2 g3 g4;clear M L W X Y a;have k:w.heap.size<=g.heap.size:=Au A5 F.o.size;go_wp2_with(at_builtin;refine Qi _ rfl (.tmp 15) (.tmp 17) 41 rfl (t:=Q4) (v:=A pu P.length cu) (xs:=P) (ys:=xs) rfl (by decide) w.heap.size 117 z _ 16 underlying41 A0 A1 A2 A3 rfl (by decide) rfl rfl (E.o.kept F.o) (HW.o.kept (Am F.o)) (by have:=A4.o;omega) k ?_;intro v1 w1 l n;have A7:=qh n;have A8:=qh l;clear l n)
   go_roundw;case rel=>exact⟨j+1,by omega,by go_num,A8.o.eqL (by rw[J.o,d.o]),(E.o.kept F.o).grew (Q0 G.o F.o) k A7.o⟩
   case measure=>simp[Bv];omega
  ·have A9:C.length<=j:=by omega
   go_wp2_with fail
   go_ret;refine⟨_,rfl,E.o.eqL ?_,G.o⟩;rw[J.o,Ao A9];rfl
theorem Qof(w:Bh)(b o:Nat)(p:J9)(h:At Qr w b o p)(s:(Vi (pW p)).length<=100000000):
  Bq prog 113 #[.pointer (R ⟨b,o,N⟩)] w λe w'=>∃v,e=.returned v/\Qqe Q4 40 w.heap.size w' v (Vi (pW p))/\Bi w.heap.size w w':=by
 obtain⟨m,C,ac⟩:=p;obtain⟨-,AO,AP,⟨c0,-⟩,-,⟨hc,hm,z⟩⟩:=h.pool;unfold Bp at hm;have HC:=qh z;have HZ:D ((C.flatMap λw=>(wL w).flatMap lw).length<=100000000):=qh (s);have AB:=Ac w _ c0;simp only at AB;clear z h s;obtain⟨i0,AC,AD,AE,AF⟩:=Ch Vx;go_enter func113,ntmps113;go_wp2_with fail
 have A0:=qh (Qqe.nil (t:=Q4) (e:=40) (B:=w.heap.size) (w:=w));go_loopw [3,13] (λu i wr=>∃(j:Nat),j<=C.length/\i=I Z j/\D (Qqe Q4 40 w.heap.size wr u ((C.take j).flatMap λw=>(wL w).flatMap lw))/\D (Bi w.heap.size w wr)) (λ_ i _=>C.length-(Bv i).toNat);case atStart=>exact⟨0,Ak _,rfl,A0.o,Ai _ _⟩
 case round=>
  obtain⟨j,hj,rfl,d,L⟩:=hrel;clear A0;rename Bh=>wo
  by_cases A1:j<C.length
  ·obtain⟨b1,o1,rfl,g⟩:=Rd.elem HC.o j A1
   generalize S:C[j]=x at g;obtain⟨ph,vi,xs,E,cs⟩:=x;have HX:=qh S;clear S;obtain⟨px,cx,pl,cl,pc,cc,⟨M,T,U,V,W⟩,-,-,⟨w1,w2,hw⟩,-⟩:=g.worker;simp only[Ty.sz,Bj]at M T U V W;unfold Bp at w2;have HW:=qh hw;clear hw g;have HS:D (((C.take (j+1)).flatMap λw=>(wL w).flatMap lw)=((C.take j).flatMap λw=>(wL w).flatMap lw)++E.flatMap lw):=qh (by rw[Yj A1,HX.o];rfl);have AG:D (((C.take j).flatMap λw=>(wL w).flatMap lw).length+(E.flatMap lw).length<=100000000):=qh (by have:=Zz (f:=λw=>(wL w).flatMap lw) C (j+1);have h2:=HZ.o;rw[HS.o]at this;simp only[Bo]at *;omega);have M:=(Am L.o).cell _ _ M;have T:=(Am L.o).cell _ _ T;have U:=(Am L.o).cell _ _ U;have V:=(Am L.o).cell _ _ V;have W:=(Am L.o).cell _ _ W;have AH:=Ac wo _ M;simp only at AH;go_upto_region 6 with fail
   refine Qq ?_;intro W1 A2;have l:D (Bi wo.heap.size wo W1):=qh (by rw[A2];go_grown);clear A2 M T U V W;have X:=qh (d.o.kept l.o);have A3:=qh (Q0 L.o l.o);clear d;go_loopw [3,20] (λu i wr=>∃(k:Nat),k<=E.length/\i=I Z k/\D (Qqe Q4 40 w.heap.size wr u (((C.take j).flatMap λw=>(wL w).flatMap lw)++(E.take k).flatMap lw))/\D (Bi w.heap.size w wr)) (λ_ i _=>E.length-(Bv i).toNat);case atStart=>exact⟨0,Ak _,rfl,(show Qqe _ _ _ _ _ _ by have:=X.o;simpa using this),A3.o⟩
   case round=>
    obtain⟨k,hk,rfl,O,Y⟩:=hrel;clear X A3 l L;by_cases A4:k<E.length
    ·obtain⟨b2,o2,rfl,n⟩:=Rd.elem (HW.o.kept (Am Y.o)) k A4
     generalize hy:E[k]=y at n;obtain⟨⟨G,H⟩,⟨J,K⟩⟩:=y;have HY:=qh hy;clear hy;obtain⟨⟨q,l1,l2,l3⟩,j0,j1,j2,j3⟩:=n.link;simp only[Ty.sz,Bj]at q l1 l2 l3;have HF:=qh (And.intro (And.intro j0 j1) (And.intro j2 j3));clear n j0 j1 j2 j3;obtain⟨P,a⟩:∃P:List (Int×Int),P=((C.take j).flatMap λw=>(wL w).flatMap lw)++(E.take k).flatMap lw:=⟨_,rfl⟩;rw[<-a]at O;have HP:=qh a;have A5:D ((E.take (k+1)).flatMap lw=(E.take k).flatMap lw++ [(G,H),(J,K)]):=qh (by rw[Yj A4,HY.o]);have HL:D (P.length+([(G,H),(J,K)]:List Wd).length<=1000000000):=qh (by rw[a];have:=Zz (f:=lw) E (k+1);rw[A5.o]at this;have:=AG.o;simp only[Bo,Bs,List.length_nil]at *;omega);clear a;obtain⟨pu,cu,rfl,AQ,AR⟩:=O.o.form;have A6:=Ac wr _ q;simp only at A6;go_upto_region 8 with fail
     refine Qq ?_;intro F r;have AI:D (Bi wr.heap.size wr F):=qh (by rw[r];go_grown);obtain⟨g0,g1,g2,g3⟩:F.cell? ⟨wr.heap.size,0,N⟩=R (I Z G)/\F.cell? ⟨wr.heap.size,1,N⟩=R (I Z H)/\F.cell? ⟨wr.heap.size,2,N⟩=R (I Z J)/\F.cell? ⟨wr.heap.size,3,N⟩=R (I Z K):=by rw[r];have h:=Bg wr (.cells #[I Z G,I Z H,I Z J,I Z K] 120);exact⟨Q8 h rfl,Q8 h rfl,Q8 h rfl,Q8 h rfl⟩
     clear r q l1 l2 l3 A6;have AJ:D (Bi F.heap.size F (F.alloc (.cells #[I Z G,I Z H,I Z J,I Z K] 40))):=qh (by go_grown)
     have AK:=qh (show Rd (.slice Q4) (F.alloc (.cells #[I Z G,I Z H,I Z J,I Z K] 40)) [A (R ⟨F.heap.size,0,N⟩) 2 2] [(G,H),(J,K)]from
      (Qqe.of_block (t:=Q4) (xs:=[(G,H),(J,K)]) (Bg F _) (Aj _) rfl rfl (λx S=>by
       rcases Aq.1 S with h|h
       ·rw[h];exact HF.o.1
       ·rw[Bb.1 h];exact HF.o.2) (by simp[Bp])).rd rfl)
     have c:=qh (Q0 AI.o AJ.o);have A7:w.heap.size<=(F.alloc (.cells #[I Z G,I Z H,I Z J,I Z K] 40)).heap.size:=Au Y.o.size c.o.size;go_wp2_with(at_builtin;refine Qi _ rfl (.tmp 24) (.tmp 29) 132 rfl (t:=Q4) (v:=A pu P.length cu) (xs:=P) (ys:=[(G,H),(J,K)]) rfl (by decide) w.heap.size 40 i0 _ 16 underlying132 AC AD AE AF rfl (by decide) rfl rfl (O.o.kept c.o) AK.o HL.o A7 ?_;intro v1 w1 A8 A9;have AL:=qh A9;have X:=qh A8;clear A8 A9)
     go_roundw;case rel=>exact⟨k+1,by omega,by go_num,(show Qqe _ _ _ _ _ _ from X.o.eqL (by rw[HP.o,A5.o,List.append_assoc])),(O.o.kept c.o).grew (Q0 Y.o c.o) A7 AL.o⟩
     case measure=>simp[Bv];omega
    ·have AA:k=E.length:=by omega
     have AM:=qh AA;clear AA;go_wp2_with fail
     go_roundw;case rel=>exact⟨j+1,by omega,by go_num,(show Qqe _ _ _ _ _ _ from O.o.eqL (by rw[HS.o,AM.o,List.take_length])),Y.o⟩
     case measure=>simp[Bv];omega
  ·have AN:C.length<=j:=by omega
   go_wp2_with fail
   go_ret;refine⟨_,rfl,d.o.eqL ?_,L.o⟩;rw[Ao AN];rfl
end Go.Proofs.YthbpkpnioaniiaaGreat
