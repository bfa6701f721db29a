import Derived.Test.YthbpkpnioaniiaaGreatP24
set_option maxHeartbeats 40000000
set_option maxRecDepth 100000
set_option linter.all false
namespace Go.Proofs.YthbpkpnioaniiaaGreat
open Go.RowKit Go.Proofs.Tryz
open Go.Value renaming int->I,slice->A
open Go.IntKind renaming i64->Z
open Option renaming none->N,some->R
open Bool renaming false->Bm,true->Bn,and_eq_true->Bl
open Go renaming World->Bh,Calls->Bq,bodyPost_ret->Ca
open Go.RowKit renaming Below->Bi,intOf->Bv
theorem Qfz(w:Bh):Bq prog 249 #[] w λe w'=>e=.returned (.agg #[I Z 0,I Z 0])/\Bi w.heap.size w w':=by
 have B:=heap_alloc_new w (.cells #[I Z 0,I Z 0] 185);obtain⟨⟨F,G⟩,H⟩:=Za B;have C:=Vm B (I Z 0) (I Z 0);obtain⟨⟨s0,s1⟩,-⟩:=Za C;have E:=qh (Below.alloc (Ai w.heap.size w) (Aj _) (.cells #[I Z 0,I Z 0] 185));go_enter func249,ntmps249;go_wp2_with fail
 refine Ca (v:=.agg #[I Z 0,I Z 0]) (by simp[results,results249,go_sem,s0,s1]) rfl ?_;exact⟨rfl,by first|exact(E.o.setCell (Aj _) _).setCell (Aj _) _|go_grown⟩
theorem Qe3(w:Bh)(vs:List Value)(x:Qb)(h:Rd Q3 w vs x)(V:(aD x).length<=100000000/\(aW x).length<=100000000)(o:1<=(aW x).length):
  Bq prog 243 #[.agg vs.toArray] w (Q24 Q3 w (Qhn x)):=by
 obtain⟨k,l,v,d,ws⟩:=x;obtain⟨M,O,X,Y,rfl,P,⟨-,d2,p⟩,⟨-,w2,-⟩⟩:=h.agentV;have q:d.length<=100000000:=V.1;have A7:ws.length<=100000000:=V.2;have A8:1<=ws.length:=o;have r:=qh P;have HD:=qh p;unfold maxLen at d2 w2;clear h V p P o;obtain⟨n,C⟩:∃n,ws.length=n+1:=⟨ws.length-1,by omega⟩;have s:D (Qhn (k,l,v,d,ws)=(k,l,v,d,Jj n)):=qh (by unfold Qhn;simp only[aK,aL,aV,aD,aW];rw[C,Nat.add_sub_cancel]);have A9:=qh C;have t:=λW=>Q69 W n (by omega);have u:((ws.length:Int)-1)=(n:Int):=by omega
 have AA:IntKind.i64.wrap ((ws.length:Int)-1)=(ws.length:Int)-1:=by simp only[IntKind.wrap_i64];omega
 have y:D (∀W:Bh,Qqe Q4 40 W.heap.size (W.alloc (.cells (madeCells (Value.agg #[I Z 0,I Z 0]).cells (n * 2)) 40)) (A (R ⟨W.heap.size,0,N⟩) n n) (Jj n)):=qh (λW=>Q8n W _ n (by omega));generalize hcur:madeCells (Value.agg #[I Z 0,I Z 0]).cells (n * 2)=cur at *
 have AB:∀W:Bh,(Instr.makeSlice 132 (I Z ((ws.length:Int)-1)) (I Z ((ws.length:Int)-1))).run prog W=.ok (A (R ⟨W.heap.size,0,N⟩) n n) (W.alloc (.cells cur 40)):=λW=>by rw[u];exact t W
 clear C hcur u t;go_enter func243,ntmps243;go_upto_region 1 with fail
 refine Qq ?_;intro W S;have a:D (Bi w.heap.size w W):=qh (by rw[S];go_grown);have T:=Jn w #[I Z k,I Z l,I Z v,A M d.length O,A X ws.length Y] #[I Z 0,I Z 0,I Z 0,A N 0 0,A N 0 0] 128 134;rw[<-S]at T;have b:=qh T.2;obtain⟨⟨k0,k1,k2,k3,k4⟩,-⟩:=Y0 T.1;have U:D (W.heap.size=w.heap.size+2):=qh (by rw[S];simp);have AC:w.heap.size<W.heap.size:=by have:=U.o;omega
 have z:w.heap.size+1<W.heap.size:=by have:=U.o;omega
 have f:D (Bi W.heap.size W W.drew):=qh ((Ai _ _).drew);have g:D (Bi W.heap.size W ((W.alloc (.cells cur 40)).drew)):=qh (((Ai _ _).alloc (Aj _) _).drew);have A0:D (∀B,Bi W.heap.size W B->Rd (.slice .int) B [A M d.length O] d):=qh (λB H=>HD.o.kept (Am (Q0 a.o H)));have HK:D (∀B,Q1 (λc=>c=w.heap.size+1) W B->B.cell? ⟨w.heap.size,0,N⟩=R (I Z k)/\B.cell? ⟨w.heap.size,1,N⟩=R (I Z l)/\B.cell? ⟨w.heap.size,2,N⟩=R (I Z v)/\B.cell? ⟨w.heap.size,3,N⟩=R (A M d.length O)/\B.cell? ⟨w.heap.size,4,N⟩=R (A X ws.length Y)):=qh (λB hf=>Q4w hf k0 k1 k2 k3 k4 (by omega) (by omega) (by omega) (by omega) (by omega));have A2:=qh (Y0 b.o);obtain⟨⟨z0,z1,z2,z3,z4⟩,zf⟩:=A2.o;clear S T
 go_region_held3(λB=>B.cell? ⟨w.heap.size,0,N⟩=R (I Z k)/\B.cell? ⟨w.heap.size,1,N⟩=R (I Z l)/\B.cell? ⟨w.heap.size,2,N⟩=R (I Z v)/\B.cell? ⟨w.heap.size,3,N⟩=R (A M d.length O)/\B.cell? ⟨w.heap.size,4,N⟩=R (A X ws.length Y))
  (((with_reducible refine HK.o _ ?_);(repeat(first|with_reducible exact A1.o|with_reducible exact Q1.refl _ _|with_reducible apply Q1.drew|with_reducible apply Q1.alloc|with_reducible refine Q16 ?_))))
  (first
   |((go_at_call 117;(with_reducible refine(Q02 W.drew _ d (A0.o _ f.o) q).mono ?_);rintro e w1 ⟨v1,rfl,C,H⟩;obtain⟨F,G,rfl⟩:=Jo C;have E:=qh (Q0 f.o H);have A3:=qh (C.lo (show W.heap.size<=W.drew.heap.size from f.o.size));have J:=qh (Qe b.o E.o);have A1:D (Q1 (λc=>c=w.heap.size+1) W w1):=qh (Ay E.o);obtain⟨⟨s0,s1,s2,s3,K⟩,sf⟩:=Y0 J.o;have A4:w.heap.size+1<w1.heap.size:=Ap z E.o.size;clear C H))
   |((go_at_call 117;(with_reducible refine(Q02 ((W.alloc (.cells cur 40)).drew) _ d (A0.o _ g.o) q).mono ?_);rintro e w1 ⟨v1,rfl,C,H⟩;obtain⟨F,G,rfl⟩:=Jo C;have E:=qh (Q0 g.o H);have A5:=qh (Qqa.agentB r.o C (((y.o W).new rfl).kept (w':=(W.alloc (.cells cur 40)).drew) (Ai _ _).drew) H g.o.size);have J:=qh (Qe b.o E.o);have A1:D (Q1 (λc=>c=w.heap.size+1) W w1):=qh (Ay E.o);obtain⟨⟨s0,s1,s2,s3,K⟩,sf⟩:=Y0 J.o;have A4:w.heap.size+1<w1.heap.size:=Ap z E.o.size;clear C H))
   |fail)
 all_goals(go_wp2_with fail)
 ·have L:=Vz w1 (w.heap.size+1) 0 (I Z k) (I Z l) (I Z v) (A F d.length G) (A (R ⟨w1.heap.size,0,N⟩) n n)
  have j:=Q22 J.o (I Z k) (I Z l) (I Z v) (A F d.length G) (A (R ⟨w1.heap.size,0,N⟩) n n);have hx:=Qw j (o':=.cells cur 40);have hz:(Qcz w1 (w.heap.size+1) 0 (I Z k) (I Z l) (I Z v) (A F d.length G) (A (R ⟨w1.heap.size,0,N⟩) n n)).heap.size=w1.heap.size:=by simp[Qcz,World.setCell]
  have hM:=y.o (Qcz w1 (w.heap.size+1) 0 (I Z k) (I Z l) (I Z v) (A F d.length G) (A (R ⟨w1.heap.size,0,N⟩) n n));have hN:=A3.o.frame L (λi P=>by omega);have hB:=E.o.size;have hA:=Qqa.agentA r.o hN (hM.new rfl) ((Ai _ _).alloc (Aj _) _) (by rw[hz];exact hB);rw[hz]at hA;have A6:=U.o;refine Ca (v:=.agg #[I Z k,I Z l,I Z v,A F d.length G,A (R ⟨w1.heap.size,0,N⟩) n n]) (by obtain⟨⟨s0,s1,s2,s3,K⟩,-⟩:=Y0 hx;simp[results,results243,go_sem,s0,s1,s2,s3,K]) rfl ?_;refine⟨[_,_,_,_,_],rfl, ?_,a.o.trans (((Ay E.o).trans (L.alloc _)).below (by omega) (λc m=>Nat.le_of_lt (by have h:c=w.heap.size+1:=m;omega)))⟩;rw[s.o];exact hA.lo (by omega)
 ·have L:=Vz w1 (w.heap.size+1) 0 (I Z k) (I Z l) (I Z v) (A F d.length G) (A (R ⟨W.heap.size,0,N⟩) n n)
  have j:=Q22 J.o (I Z k) (I Z l) (I Z v) (A F d.length G) (A (R ⟨W.heap.size,0,N⟩) n n);have A6:=U.o;refine Ca (v:=.agg #[I Z k,I Z l,I Z v,A F d.length G,A (R ⟨W.heap.size,0,N⟩) n n]) (by obtain⟨⟨s0,s1,s2,s3,K⟩,-⟩:=Y0 j;simp[results,results243,go_sem,s0,s1,s2,s3,K]) rfl ?_;refine⟨[_,_,_,_,_],rfl, ?_,a.o.trans (((Ay E.o).trans L).below (by omega) (λc m=>Nat.le_of_lt (by have h:c=w.heap.size+1:=m;omega)))⟩;rw[s.o];exact(A5.o.frame L (λi P=>by omega)).lo (by omega)
theorem Q7r{L w:Bh}{M S:MS}{g:Nat}{m:Qqp}{l:List Nat}(h:Qk L M g 0 w m S l)(E P n f:Nat)(a s t u i:Int)(j:0<=a/\a<n)(hs:0<s/\s<=1000)(O:w.cell? ⟨E,P+a.toNat,N⟩=R (I Z i))(T:E∉S.all/\E≠g)(A5:0<=i)(hi:i<(mC m).length)(o:i.toNat∉l)(hk:s-1<(aW (Q7 (mC m) i)).length)(p:Qqm t)(r:Qqm u):
  Bq prog 245 #[.pointer (R ⟨g,0,N⟩),.agg #[I Z a,I Z s],.agg #[I Z t,I Z u],A (R ⟨E,P,N⟩) n f] w λe w'=>e=.returned (.tuple #[])/\Qk L M g 0 w' (Qh m i (s-1) (t,u)) S l/\Q1 (λc=>c∈S.all) w w':=by
 obtain⟨k,v⟩:∃k:Nat,(s-1).toNat=k:=⟨_,rfl⟩;have x:(k:Int)=s-1:=by omega
 have U:k<(aW (Q7 (mC m) i)).length:=by omega
 obtain⟨B,ow,y,X,⟨H,Y,b⟩,z,F⟩:=h.wordB (i:=i) (k:=k) (by omega) o U;obtain⟨_,_,d,-,-,-,-,-,-,-,-⟩:=h.mem.head;have A6:=h.mem.blk.lt;have A7:=h.mem.lt _ (Aa _ H);have A0:=Ac w _ O;have A8:=h.mem.cells.blk.lt;have A1:=h.mem.cells.bound;unfold maxLen at A1;simp only at A0;have A2:D (∀V,Bi w.heap.size w V->Qk L M g 0 ((V.setCell ⟨B,ow+k * 2,N⟩ (I Z t)).setCell ⟨B,ow+k * 2+1,N⟩ (I Z u)) (Qh m i (s-1) (t,u)) S l):=qh (λV G=>by unfold Qh;rw[v];exact(F V G).2.2.2 t u p r);have A3:D (∀V,Bi w.heap.size w V->(∃u,V.cell? ⟨B,ow+k * 2,N⟩=R u)/\(∃u,V.cell? ⟨B,ow+k * 2+1,N⟩=R u)/\(∀q,V.frozen? ⟨B,q,N⟩=Bm)):=qh (λV G=>⟨(F V G).1,(F V G).2.1,(F V G).2.2.1⟩);have HN:=qh (And.intro H (And.intro Y b));have A9:IntKind.i64.wrap (s-1)=s-1:=by simp only[IntKind.wrap_i64];omega
 have AA:(s==0)=Bm:=by rw[beq_eq_false_iff_ne];omega
 have AB:(0:Int)<=s-1:=by omega
 have AC:D (E≠B):=qh (λe=>T.1 (e▸H));generalize hwl:(aW (Q7 (mC m) i)).length=wl at *
 have AD:s-1<(wl:Int):=by omega
 have AE:wl<=y:=z;obtain⟨AF,AG⟩:=j;clear F hwl h H Y b x U T;go_enter func245,ntmps245;go_upto_region 1 with fail
 refine Qq ?_;intro W J;have C:D (Bi w.heap.size w W):=qh (by rw[J];go_grown);have K:=Jn w #[I Z a,I Z s] #[I Z t,I Z u] 185 40;rw[<-J]at K;obtain⟨⟨p0,p1⟩,-⟩:=Za K.1;obtain⟨⟨x0,x1⟩,-⟩:=Za K.2;have d:=(Am C.o).cell _ _ d;have O:=(Am C.o).cell _ _ O;have X:=(Am C.o).cell _ _ X;obtain⟨⟨z0,AH⟩,⟨z1,AI⟩,AJ⟩:=A3.o W C.o;have A4:D (W.heap.size=w.heap.size+2):=qh (by rw[J];simp);have AK:B<W.heap.size:=by have:=A4.o;omega
 clear J K;go_upto_region 3 with fail
 go_region
 go_wp2_with fail
 go_end0
 refine⟨rfl,(A2.o W C.o).drew, ?_⟩;have hf:Q1 (λc=>c=B) W (((W.setCell ⟨B,ow+k * 2,N⟩ (I Z t)).setCell ⟨B,ow+k * 2+1,N⟩ (I Z u)).drew):=(Q16 (Q16 (Q1.refl _ _))).drew;exact(Ay C.o).trans (hf.mono λc hc=>by have e:c=B:=hc;rw[e];exact HN.o.1)
theorem Qh5{n:Qr2}{l:Int}(h:Ys n=Bn)(S:0<=l)(O:Vn n l=Bn):Ys (Yq n l)=Bn:=by
 obtain⟨-,H,-,-⟩:=Y5 h;unfold Ys at h⊢;simp only[Bl]at h⊢;refine⟨?_, ?_⟩
 ·have F:=h.1
  unfold Jm at F⊢;simp only[Bl]at F⊢;rw[Ym];refine⟨F.1, ?_⟩;rw[Bf];intro i K;have L:=List.mem_range.1 K;have J:=Bf.1 F.2 i K;simp only[Bl]at J⊢;rw[Q4x];refine⟨?_,J.2⟩;have E:=J.1;have G:=Bf.1 O (Qn n i) (by rw[Qx L];exact As L);generalize Qn n i=x at *
  unfold Yc at E⊢;simp only[Bl]at E⊢;refine⟨⟨E.1.1, ?_⟩,E.2⟩;have B:=E.1.2;have M:Y1 (aK x)=Bn->aL x+l<=8:=λC=>by unfold Qql at G;rw[C]at G;simpa using G
  clear G;simp only[aK,aL]at B M⊢;unfold Zy at B⊢;rcases Bool.eq_false_or_eq_true (Y1 x.1)with C|C
  ·have T:=M C
   simp only[C,if_true]at B⊢;have:=Ql.1 B;exact Ql.2 (by omega)
  ·simp only[C,Bool.false_eq_true,if_false]at B⊢
   exact B
 ·rw[Q3a]
  have H:=h.2;rw[Bf]at H⊢;intro p P;have:=H p P;unfold Q0c Q0l at this⊢;simp only[Q2y,Ym];have e:∀i:Int,aW (Q7 (Yq n l) i)=aW (Q7 n i):=λi=>by unfold Q7;rw[Q6r]
  rw[e];exact this
theorem Ql7{n:Qr2}(h:Ys n=Bn){i:Nat}(C:i<n.length):(aK (Qn n i)==1)=((i:Int)==0):=by
 unfold Ys Jm at h;simp only[Bl]at h;have B:=Bf.1 h.1.2 i (List.mem_range.2 C);simp only[Bl,beq_iff_eq]at B;exact B.2
theorem Qmi(w:Bh)(b o:Nat)(n:List Qb)(h:At Je w b o n)(g:Ys n=Bn):
  Bq prog 247 #[.pointer (R ⟨b,o,N⟩)] w λe w'=>∃v,e=.returned v/\Qqe Q4 117 w.heap.size w' v (Yd n)/\Bi w.heap.size w w':=by
 obtain⟨⟨AJ,AK⟩,A3,-,-⟩:=Y5 g;obtain⟨p,c,c0,hc,hm,m⟩:=h.net;have HN:=qh m;have HV:=qh g;have A4:=Ac w _ c0;simp only at A4;clear m h;obtain⟨i0,A5,A6,A7,A8⟩:=info_parts J4;go_enter func247,ntmps247;go_wp2_with fail
 have q:=qh (Qqe.nil (t:=Q4) (e:=117) (B:=w.heap.size) (w:=w));go_loopw [3,12] (λu i wr=>∃(j:Nat),j<=n.length/\i=I Z j/\D (Qqe Q4 117 w.heap.size wr u (Q1u n j))/\D (Bi w.heap.size w wr)) (λ_ i _=>n.length-(Bv i).toNat);case atStart=>exact⟨0,Ak _,rfl,q.o,Ai _ _⟩
 case round=>
  obtain⟨j,hj,rfl,F,G⟩:=hrel;clear q;have A9:=G.o.size;obtain⟨L,K⟩:∃L:List Wd,Q1u n j=L:=⟨_,rfl⟩;rw[K]at F;have r:=qh K;have AA:D (L.length<=n.length):=qh (by rw[<-K];exact Au (Q14 n j) hj);clear K;obtain⟨pu,cu,rfl,-,-⟩:=F.o.form;by_cases M:j<n.length
  ·obtain⟨b1,o1,rfl,U⟩:=Rd.elem (HN.o.kept (Am G.o)) j M
   have V:=Q31 (A3 j M);have C:=Ql7 HV.o M;have X:D (Qt n ((j:Int),0)=(aW (Qn n j)).getD 0 (0,0)):=qh (by unfold Qt Q7;simp);have O:D (Q2c n j=(j !=0 && ((Qt n ((j:Int),0)).2==0 && decide ((j:Int)<(Qt n ((j:Int),0)).1)))):=qh (rfl);have P:D (Q1u n (j+1)=L++(if Q2c n j then [((j:Int),(Qt n (j,0)).1)]else [])):=qh (by rw[Q37,r.o]);rw[<-Qx M]at U;generalize Qn n j=x at *
   obtain⟨k,l,v,d,ws⟩:=x;simp only[aW,aK]at V C X;obtain⟨pd,cd,pw,cw,⟨Y,s,y,z,e4⟩,-,-,⟨-,-,hw⟩⟩:=U.agent;simp only[Ty.sz,Nat.reduceAdd]at Y s y z e4;obtain⟨bp,op,rfl,hE⟩:=Rd.elem hw 0 V;obtain⟨f0,f1,A0,AB⟩:=At.word (t:=ws[0].1) (a:=ws[0].2) hE;simp only[Ty.sz,Nat.reduceAdd,Nat.zero_mul,Nat.add_zero]at f0 f1;have S:D (Qt n ((j:Int),0)=(ws[0].1,ws[0].2)):=qh (by rw[X.o];exact Q7u V);have AC:=qh A0;generalize ws[0].1=q0 at *
   generalize ws[0].2=q1 at *
   have AD:=Ac wr _ Y;have AE:=Ac wr _ f0;simp only at AD AE;have AL:(j:Int)<n.length:=by omega
   have AM:(0:Int)<=j:=by omega
   have AN:(0:Int)<ws.length:=by omega
   clear U hw hE A0 AB X;go_upto_region 6 with fail
   refine Qq ?_;intro W f;have E:D (Bi wr.heap.size wr W):=qh (by rw[f];go_grown);have T:=Jn wr #[I Z k,I Z l,I Z v,A pd d.length cd,A (R ⟨bp,op,N⟩) ws.length cw] #[I Z q0,I Z q1] 128 185;rw[<-f]at T;obtain⟨⟨a0,-,-,-,-⟩,-⟩:=Y0 T.1;obtain⟨⟨x0,x1⟩,-⟩:=Za T.2;clear f T Y s y z e4 f0 f1;by_cases s0:q1=0
   ·by_cases s1:(j:Int)<q0
    ·by_cases s2:k=1
     ·have H:j=0:=by
       have:(k==1)=Bn:=by simpa using s2
       rw[this]at C;have:=(beq_iff_eq.1 C.symm);omega
      have J:D (Q2c n j=Bm):=qh (by rw[O.o,H];rfl);subst s2;subst s0;clear C H;go_wp2_with fail
      go_roundw;case rel=>exact⟨j+1,by omega,by go_num,(F.o.kept E.o).eqL (by rw[P.o,J.o];simp),(show Bi _ _ _ from Q0 G.o E.o)⟩
      case measure=>simp[Bv];omega
     ·have H:j≠0:=λe=>s2 (by
       subst e;have:((((0:Nat):Int))==0)=Bn:=rfl;rw[this]at C;exact beq_iff_eq.1 C)
      have HT:D (Q2c n j=Bn):=qh (by
       rw[O.o,S.o];have:(j !=0)=Bn:=by simpa using H
       simp[this,s0,s1])
      have AO:(k !=1)=Bn:=by simpa using s2
      subst s0;clear C H s2;have AF:w.heap.size<=W.heap.size:=Au A9 E.o.size;go_wp2_with(at_builtin;refine Q0e W rfl (.tmp 35) (.tmp 40) 41 rfl (t:=Q4) rfl (by decide) w.heap.size 117 i0 _ 16 underlying41 A5 A6 A7 A8 rfl (by decide) (v:=A pu L.length cu) (xs:=L) ((j:Int),q0) _ rfl rfl (F.o.kept E.o) (Q3p (by unfold Qqm;omega) AC.o) rfl (by have:=AA.o;omega) AF ?_;intro v9 w9 A1 A2 _;have AG:=qh A1;have AH:=qh A2;clear A1 A2)
      go_roundw;case rel=>exact⟨j+1,by omega,by go_num,AG.o.eqL (by rw[P.o,HT.o,S.o];rfl),(show Bi _ _ _ from(Q0 G.o E.o).trans AH.o)⟩
      case measure=>simp[Bv];omega
    ·have J:D (Q2c n j=Bm):=qh (by rw[O.o,S.o];simp[s0,s1])
     subst s0;clear C;go_wp2_with fail
     go_roundw;case rel=>exact⟨j+1,by omega,by go_num,(F.o.kept E.o).eqL (by rw[P.o,J.o];simp),(show Bi _ _ _ from Q0 G.o E.o)⟩
     case measure=>simp[Bv];omega
   ·have J:D (Q2c n j=Bm):=qh (by rw[O.o,S.o];simp[s0])
    have AP:(q1==0)=Bm:=by simpa using s0
    clear C s0;go_wp2_with fail
    go_roundw;case rel=>exact⟨j+1,by omega,by go_num,(F.o.kept E.o).eqL (by rw[P.o,J.o];simp),(show Bi _ _ _ from Q0 G.o E.o)⟩
    case measure=>simp[Bv];omega
  ·have AI:n.length=j:=by omega
   go_wp2_with fail
   go_ret;exact⟨_,rfl,F.o.eqL (by rw[<-r.o,Q1r,AI]),G.o⟩
end Go.Proofs.YthbpkpnioaniiaaGreat
