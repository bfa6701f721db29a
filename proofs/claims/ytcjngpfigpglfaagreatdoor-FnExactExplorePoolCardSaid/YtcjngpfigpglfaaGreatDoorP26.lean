import Derived.Test.YtcjngpfigpglfaaGreatDoorP14
import Derived.Test.YtcjngpfigpglfaaGreatDoorP23
set_option maxHeartbeats 0
set_option maxRecDepth 100000
set_option linter.all false
namespace Go.Proofs.YtcjngpfigpglfaaGreatDoor
open Go.RowKit Go.Proofs.Tryz
open Go.Value renaming int->I,slice->A
open Go.IntKind renaming i64->Z
open Option renaming none->N,some->R
open OC(oC)
open OR(oR)
open JN(jN)
open Go renaming World->Bh,Calls->Bv,heap_alloc_new->Bg,bodyPost_ret->Ce
open List renaming length_map->De,length_take->Cf,length_append->Bo,cons_append->Bw,nil_append->Bs
open List.cons renaming injEq->Ed
open Nat renaming zero_add->Cg,reduceAdd->Bj
def Qz1(x:Q4u):Bool:=(Q2x (fP x)).isEmpty
def Qmq(l:List Q4u):List Ye:=(l.filter Qz1).map fP
def Qp4{l:List Q4u}{j:Nat}(h):Qmq (l.take (j+1))=if Qz1 l[j]then Qmq (l.take j)++ [fP l[j]]else Qmq (l.take j):=by
 unfold Qmq;rw[An h,List.filter_append,List.map_append];cases hq:Qz1 l[j]<;>simp[hq]
def Qqe(l):(Qmq l).length<=l:=by
 unfold Qmq;rw[De];exact List.length_filter_le _ _
theorem Qz8(p):(Q2x p).isEmpty= !(pW p).any λk=>wP k !=4:=by
 unfold Q2x;rw[Bool.eq_iff_iff];simp only[List.isEmpty_iff,List.map_eq_nil_iff,List.filter_eq_nil_iff,List.mem_range,Bool.not_eq_true',List.any_eq_false];constructor
 ·intro h k C
  obtain⟨i,B,rfl⟩:=List.getElem_of_mem C;have:=h i B;unfold Q3 at this;rwa [Ab,Ad B]at this
 intro h i B;unfold Q3;rw[Ab,Ad B];exact h _ (As B)
abbrev Qzc:Ty:=.pair .int (.pair .int (.pair .int (.pair .int (.slice Qv))))
def Qyy:Qzc.den:=((0:Int),((0:Int),((0:Int),((0:Int),([]:List Ye)))))
def Qz6(bk:List Qy0)(p:Ye)(most:Int):Qzc.den×Int:=match Q5w bk p most with
 | .inl c=>(Qyy,c)
 | .inr W=>if 40<(Qmq W.1).length then(Qyy,4)else(((W.1:Int),(W.2.1,(W.2.2,(fD (Q04 p W (W.1.length-1)),Qmq W.1)))),0)
def Qn3(a b c d:Int)(v:Value):Obj:=.cells #[a,b,c,d,v] 57
def Qrd{w:Bh}{g a b c d v}(h:w.heap[g]?=R (Qn3 a b c d v)):((w,g,0,a)/\(w,g,1,b)/\(w,g,2,c)/\(w,g,3,d)/\(w,g,4,v))/\∀q,w.frozen? ⟨g,q,N⟩=false:=
 ⟨⟨Q6 h rfl,Q6 h rfl,Q6 h rfl,Q6 h rfl,Q6 h rfl⟩,λq=>Q0u.free (T:=57) ⟨_,h⟩ q⟩
def Qzm(R:Qzc.den×Int)(w:Bh)(e:Ending)(w':Bh):Prop:=
 ∃p c,e=.returned (.tuple #[.agg #[R.1.1,R.1.2.1,R.1.2.2.1,R.1.2.2.2.1,A p R.1.2.2.2.2 c],R.2])/\Qy7 Qzc w w' [R.1.1,R.1.2.1,R.1.2.2.1,R.1.2.2.2.1,A p R.1.2.2.2.2 c] R.1/\(w,w')
def Qnx{w:Bh}{w2}{g:Nat}{B a b c d a' b' c' d' v E}{L:List Ye}(h:w2.heap[g]?=R (Qn3 a b c d v))(H:Below w w w2)(Y:w<=g/\g<B)(K:Qyn a'/\Qyn b'/\Qyn c'/\Qyn d')(M:Qy7 (.slice Qv) B w2 [E] L):
  ∃W,W=(((((w2.setCell (g,0) a').setCell (g,1) b').setCell (g,2) c').setCell (g,3) d').setCell (g,4) E)/\
   ((W,g,0,a')/\(W,g,1,b')/\(W,g,2,c')/\(W,g,3,d')/\(W,g,4,E))/\
   Qy7 Qzc w W [a',b',c',d',E] (a',(b',(c',(d',L))))/\Below w w W:=by
 refine⟨_,rfl, ?_⟩;have J:=Jn [a',b',c',d',E] 0 w2 _ h;have G:=Zx (X:=λc=>c=g) (g:=g) rfl [a',b',c',d',E] 0 w2;simp only[Yu,Cg,Bj]at J G;have O:=J.trans (show _=R (Qn3 a' b' c' d' E)by simp[Q1u,Qn3]);obtain⟨F,o,n,r⟩:=(M.frame G (λi P=>by omega)).lo (C:=w) (by omega);obtain⟨S,T,U,V⟩:=K;exact⟨(Qrd O).1,⟨F,⟨[_],[_,_,_,_],[],F,rfl,rfl,⟨rfl,S,rfl⟩,[_],[_,_,_],[],F,rfl,rfl,⟨rfl,T,rfl⟩,[_],[_,_],[],F,rfl,rfl,⟨rfl,U,rfl⟩,[_],[_],[],F,rfl,rfl,⟨rfl,V,rfl⟩,o⟩,n,r⟩,H.trans (G.below (by have:=H.size;omega) (λi P=>by omega))⟩
def Qs5{bk p W}(h:Q88 bk p W)(B:W.1.length<=400):∃k:Nat,W.1=k+1/\W.1[k]?=R (Q04 p W (W.1.length-1))/\Qyn (fD (Q04 p W (W.1.length-1))):=by
 have:=h.ne;refine⟨W.1.length-1,by omega, ?_, ?_⟩
 ·unfold Q04;rw[Ab,Ad (by omega)];rfl
 have:=h.depth (W.1.length-1) (by omega);unfold Qyn;omega
theorem Qrx{bk p most c}(h:Q5w bk p most=.inl c):Qz6 bk p most=(Qyy,c):=by unfold Qz6;rw[h]
theorem Qoz{bk p most W}(h:Q5w bk p most=.inr W)(k:40<(Qmq W.1).length):Qz6 bk p most=(Qyy,4):=by unfold Qz6;rw[h];exact if_pos k
theorem Quz{bk p most W}(h:Q5w bk p most=.inr W)(k:¬40<(Qmq W.1).length):Qz6 bk p most=(((W.1:Int),(W.2.1,(W.2.2,(fD (Q04 p W (W.1.length-1)),Qmq W.1)))),0):=by unfold Qz6;rw[h];exact if_neg k
def Qyx{p}(h:Q0y p):Vh Qv p<=100000:=by
 obtain⟨F,⟨L,C,M⟩,G⟩:=Qd2 h;have O:Y3 Q4 (mC (pM p))<=(mC (pM p)) * 15:=Qzp λx B=>by have H:=F x B;have J:=Qax x.2.2.2.1;have K:=Qzq x.2.2.2.2;have e:Vh Q4 x=1+(1+(1+(Y3 .int x.2.2.2.1+Y3 Q5 x.2.2.2.2))):=rfl;grind[aD,aW]
 have P:Y3 Qh (pW p)<=(pW p) * 9009:=Qzp λx B=>by have H:=G x B;have J:=Qzq x.2.2.1;have K:=Qzr x.2.2.2.1;have S:=Qax x.2.2.2.2;have e:Vh Qh x=1+(1+(Y3 Q5 x.2.2.1+(Y3 Z7 x.2.2.2.1+Y3 .int x.2.2.2.2))):=rfl;grind[wX,wL,wC]
 have E:=Qzq (mX (pM p));rw[C]at E;have e:Vh Qv p=(Y3 Q4 (mC (pM p))+(1+((1+1)+Y3 Q5 (mX (pM p)))))+(Y3 Qh (pW p)+1):=rfl;rw[C]at e;simp only[List.length_nil]at E;omega
def Qz9(bk p most):Y3 Qv (Qz6 bk p most).1.2.2.2.2<=4000000:=by
 cases hE:Q5w bk p most with
 |inl c=>rw[Qrx hE];simp[Qyy,Y3]
 |inr W=>
  by_cases C:40<(Qmq W.1).length
  ·rw[Qoz hE C];simp[Qyy,Y3]
  rw[Quz hE C];have h:=(Qg2 hE).1;have F:=Qzp (e:=Qv) (B:=100000) (xs:=Qmq W.1) λx E=>by unfold Qmq at E;obtain⟨y,G,rfl⟩:=List.mem_map.1 E;exact Qyx (h.pool y (List.mem_filter.1 G).1).1
  have H:(Qmq W.1).length * 100000<=40 * 100000:=Bd _ (by omega);exact Au F (Au H (by decide))
theorem Qzb{w}(bx B bk p W G)(f:Q1b B bx 0 Q4g w (Qym W) G)(A0:Q88 bk p W)(hl:W.1.length<=400):
  Bv prog 44 #[(bx,0)] w λe w'=>∃v,e=.returned v/\Qy7 (.slice Qv) w w' [v] (Qmq W.1)/\(w,w'):=by
 have A8:=qh A0;obtain⟨H0,f0⟩:=Qyj.fst f;obtain⟨pl,cl,L,A1⟩:=f0.hold.slice;have AO:=f.lt.1;have g:=A1.rd;rw[show(Qym W).1=W.1.map fP from rfl,De]at L g;have HD:=qh L;have A9:=qh g;clear f A0 f0 L A1 g;go_enter func44,ntmps44;go_upto_region 2 with fail
 refine Qp λW0 A2=> ?_;have A3:=D (w,W0) (by rw[A2];go_grown);have A4:=D (Qy7 (.slice Qv) w W0 [A (R (w,0)) 0 0] []) (⟨[],⟨_,rfl,.inl ⟨rfl,rfl,_,rfl,λx hx=>by cases hx;rfl⟩⟩,by simp,by simp⟩);clear A2;go_wp2
 go_loopw [3,4] (λu i wr=>∃(j:Nat) (U:Option Addr) (V:Nat),j<=W.1/\i=I Z j/\u=A U (Qmq (W.1.take j)) V/\Hd (Qy7 (.slice Qv) w wr [A U (Qmq (W.1.take j)) V] (Qmq (W.1.take j)))/\Hd (w,wr)) (λ_ i _=>W.1.length-(intOf i).toNat);case atStart=>exact⟨0,_,_,Ak _,rfl,rfl,A4.o,A3.o⟩
 clear A4 A3;rename Bh=>wr
 obtain⟨j,U,V,hj,rfl,rfl,Y,M⟩:=hrel;have L:=jC M HD;have k:=M.o.size;by_cases l:j<W.1
 ·have J:=qh (Qp4 l)
  have A5:=Qqe (W.1.take j);rw[Cf]at A5;obtain⟨bb,ob,rfl,P⟩:=Rd.elem A9 j (by rw[De];exact l);rw[List.getElem_map]at P;simp only[Ty.sz,Bj]at P;have a:=(A8.o.pool _ (As l)).1;have m:=D ((pW (fP W.1[j])).length<=1000000) (by have:=(Q1c a).1.2;omega);have A6:=qh (Q52 a).dsz;obtain⟨n,o⟩:=Qf9 a;have q:Qz1 W.1[j]=(Q2x (fP W.1[j])).isEmpty:=rfl;obtain⟨X,hX⟩:∃X,X=fP W.1[j]:=⟨_,rfl⟩;rw[<-hX]at P m A6 J n o q;rw[q]at J;have AA:=qh n;have AB:=qh o;have r:=D (At Qv wr bb (ob+j * 7) X) (P.kb M);obtain⟨S,s⟩:∃S,S=Qmq (W.1.take j):=⟨_,rfl⟩;rw[<-s]at Y J A5;rw[<-s];clear P a hX q n o s;cases hq:(Q2x X).isEmpty with
  |true=>
   have A7:(Q2x X).length=0:=by rw[List.isEmpty_iff]at hq;rw[hq];rfl
   have AC:=qh A7;have T:=D (Qmq (W.1.take (j+1))=S++ [X]) (by rw[J.o,hq];rfl);clear hq A7 J;go_upto_region 6 with((go_at_call 91;(with_reducible refine(Qvc X r.o m.o).mono ?_);rintro e w7 ⟨v,rfl,H,C⟩;have E:=qh C;obtain⟨AD,AE,rfl,-,-⟩:=H.form;clear H C;rw[AC.o]))
   have L:=jC E L;have AF:=qh (r.o.kb E);have AG:=qh (Y.o.kept E);obtain⟨F,H,hF,hf⟩:=AG.o;have AH:=qh H;have AI:=qh hF;have c:=qh hf;clear H hF hf;go_wp2_with(first|((go_at_call 92;(with_reducible refine(Qe9 _ _ X AF A6).mono ?_);rintro e w8 ⟨AP,rfl,O,C⟩;obtain⟨Py,AQ,AR,rfl,-⟩:=O.poolShape AA AB;have AJ:=qh O;have AK:=qh (AH.o.kept λb h=>C.block b (c.o b h).2);have d:=qh C;clear O C))|(at_builtin;obtain⟨K,t,hK,z⟩:=AJ.o;refine Qd3 _ Qvb (.tmp 24) (.tmp 32) rfl rfl (xs:=S) (y:=X) w8 1 rfl rfl (Q6e AK _) AI (Q6e t _) hK (λb C h=>by have:=(c.o b h).2;have:=(z b C).1;omega) (λj hj=>Q6 (Bg w8 _) (by rw[Cg,List.getElem?_toArray];exact Ad hj)) (Q84 t) (by omega) ?_;intro p9 c9 w9 F9 h1 h2 h3 h4 h5;have AL:=D (Qy7 (.slice Qv) w w9 _ _) (⟨F9,h1,h2,λb C=>⟨(by have e1:=d.o.size;have e2:=E.o.size;rcases h3 b C with h|h|h;exact(c.o b h).1;(have:=(z b h).1;omega);(rw[h,Qxo];omega)),h1.lt b C⟩⟩);have AM:=D (w,w9) (((M.o.trans (E.o.mono k)).trans ((d.o.alloc d.o.size _).mono (Au k E.o.size))).trans (h4.below (by have:=d.o.size;have:=E.o.size;rw[Qxo];omega) λb C=>(c.o b C.1).1));clear h1 h2 h3 h4 h5 t hK z))
   go_roundw;case rel=>exact⟨j+1,p9,c9,by omega,by go_num,by rw[T.o,Bo];rfl,(by rw[T.o,Bo];exact AL.o),AM.o⟩
   simp[intOf];omega
  |false=>
   have AS:(((Q2x X):Int)==0)=false:=by rw[beq_eq_false_iff_ne];intro h;rw[List.isEmpty_eq_false_iff]at hq;have:=Bc.2 hq;omega
   have T:=D (Qmq (W.1.take (j+1))=S) (by rw[J.o,hq];rfl);clear hq J;go_wp2_with((go_at_call 91;(with_reducible refine(Qvc X r.o m.o).mono ?_);rintro e w7 ⟨v,rfl,H,C⟩;have E:=qh C;obtain⟨AD,AE,rfl,-,-⟩:=H.form;clear H C))
   go_roundw;case rel=>exact⟨j+1,U,V,by omega,by go_num,by rw[T.o],by rw[T.o];exact Y.o.kept E,M.o.trans (E.o.mono k)⟩
   simp[intOf];omega
 have AN:=D (W.1.take j=W.1) (Ao (by omega));go_wp2
 go_ret;have O:=Y.o;rw[AN.o]at O⊢;exact⟨_,rfl,O,M.o⟩
theorem Qyw{w}(p0 b)(bk:List Qy0)(y:Rd (.slice Jl) w [A p0 bk b] bk)(AD:bk<=maxLen)(vs)(p:Ye)(K:Rd Qv w vs p)(z:Qyv Qv p<=2000000)(most)(hm:Qyn most):
  Bv prog 18 #[A p0 bk b,.agg vs.toArray,I Z most] w (Qzm (Qz6 bk p most) w):=by
 have A0:=qh y;have A1:=qh AD;have HP:=qh K;have HZ:=qh z;have HM:=qh hm;clear y K z hm;go_enter func18,ntmps18;go_upto_region 1 with fail
 refine Qp λd L=> ?_;have HX:=D (d.heap[w.heap.size+1]?=R (Qn3 0 0 0 0 (A N 0 0))) (by rw[L];exact(Jt w _ _ _ _).2);have f:=D (w,d) (by rw[L];go_grown);have A2:=D (d.heap.size=w+2) (by rw[L];simp);have A3:=D (At Qv d w 0 p) (by rw[L];exact(Qts (T:=46) HP).kb (by go_grown));clear L;cases hE:Q5w bk p most with
 |inl c=>
  have M:=qh (Qrx hE);have O:=qh hE;clear hE;go_upto_region 2 with((go_at_call 27;(with_reducible refine(Qtr p0 b bk (A0.o.kb f.o) A1 p A3 HZ most HM).mono ?_);rintro e w2 h;rw[O.o]at h;obtain⟨C,hc,hi,rfl⟩:=h.l;have H:=qh C;have HC:=qh hc;clear C hc hi h))
  have AH:(c !=0)=true:=by have:=HC.o;simpa using this
  have A4:=qh (Qf HX H);obtain⟨⟨r0,r1,r2,r3,r4⟩,rf⟩:=Qrd A4;go_wp2_with fail
  obtain⟨W,hW,⟨P,S,U,Y,a⟩,E,C⟩:=Qnx (B:=w2) (a':=0) (b':=0) (c':=0) (d':=0) A4 (Q0 f.o H) (by have:=A2.o;have:=H.o.size;omega) (by unfold Qyn;omega) (Qy7.nil _ w2);rw[<-hW];refine Ce (v:=.tuple #[.agg #[(),(),(),(),jN],I Z c]) (by simp[results,results18,go_sem,P,S,U,Y,a]) rfl ?_;rw[M.o];exact⟨N,0,rfl,E,C⟩
 |inr W=>
  obtain⟨A5,A6⟩:=Qg2 hE;have A7:=qh A5;have O:=qh hE;clear hE A5;go_upto_region 2 with((go_at_call 27;(with_reducible refine(Qtr p0 b bk (A0.o.kb f.o) A1 p A3 HZ most HM).mono ?_);rintro e w2 h;rw[O.o]at h;obtain⟨C,J,G,rfl,K⟩:=h.r;have H:=qh C;have A8:=qh K;clear C K h))
  go_upto_region 5 with((go_at_call 44;(with_reducible refine(Qzb J _ bk p W G A8 A7 A6).mono ?_);rintro e F ⟨v,rfl,E,C⟩;obtain⟨p3,c3,rfl⟩:=V6 E;have AE:=qh E;have g:=qh C;clear E C))
  have A9:=D (w,F) (Q0 f.o (Q0 H g.o));have i:=qh (Qf HX (Q0 H g.o));have AA:=D (w.heap.size<=w+1/\w.heap.size+1<w2.heap.size) (by have:=A2.o;have:=H.o.size;omega);obtain⟨⟨r0,r1,r2,r3,r4⟩,rf⟩:=Qrd i.o;by_cases AB:40<(Qmq W.1).length
  ·have M:=qh (Qoz O AB)
   have AF:(40:Int)<((Qmq W.1):Int):=by omega
   go_wp2_with fail
   obtain⟨V,o,⟨P,S,U,Y,a⟩,E,C⟩:=Qnx (B:=F) (a':=0) (b':=0) (c':=0) (d':=0) i.o A9 (by have:=AA.o;have:=g.o.size;omega) (by unfold Qyn;omega) (Qy7.nil _ F);rw[<-o];refine Ce (v:=.tuple #[.agg #[(),(),(),(),jN],I Z 4]) (by simp[results,results18,go_sem,P,S,U,Y,a]) rfl ?_;rw[M.o];exact⟨N,0,rfl,E,C⟩
  have M:=qh (Quz O AB);have AF:¬(40:Int)<((Qmq W.1):Int):=by omega
  go_upto_region 7 with fail
  have j:=qh (A8.o.kept (X:=λ_=>False) (Ay g.o) λ_ _ h=>h);obtain⟨k,m,q,AC⟩:=Qs5 A7 A6;obtain⟨_,f0⟩:=Qyj.fst j.o;obtain⟨pl,cl,d0,-⟩:=f0.hold.slice;obtain⟨_,f3⟩:=Qyj.at3 j.o;obtain⟨b3,o3,cd,_,d3,g3⟩:=Qyj.elem f3.hold k (by simp only[Qym,De];omega);obtain⟨_,s⟩:=Qyj.at4 j.o;obtain⟨_,t⟩:=Qyj.last4 j.o;have d4:=s.hold.int.1;have d5:=t.hold.int.1;have u:=g3.hold.int.1;have HI:=qh (And.intro s.hold.int.2.1 t.hold.int.2.1);replace d0:F.cell? (J,0)=R (A pl (k+1) cl):=by rw[d0,show(Qym W).1=W.1.map fP from rfl,De,m]
  replace d3:F.cell? (J,3)=R (A (R (b3,o3)) (k+1) cd):=(show F.cell? (J,3)=_ from d3).trans (by rw[<-m];simp[Qym]);replace u:F.cell? (b3,o3+k)=R (I Z (fD (Q04 p W (W.1.length-1)))):=by
   have e:W.1[k]'(by omega)=Q04 p W (W.1.length-1):=by rw[Ad (by omega)]at q;exact Option.some.inj q
   rw[<-e];simpa[Qym,Ty.sz]using u
  replace d4:F.cell? (J,4)=R (I Z W.2.1):=d4;replace d5:F.cell? (J,5)=R (I Z W.2.2):=d5;obtain⟨n,x⟩:∃n,fD (Q04 p W (W.1.length-1))=n:=⟨_,rfl⟩;rw[x]at u AC;have HK:=qh m;have HD:=qh x;have AI:IntKind.i64.wrap (k:Int)=(k:Int):=by simp only[IntKind.wrap_i64];omega
  have AJ:(k:Int)<(k:Int)+1:=by omega
  have AK:(0:Int)<=(k:Int):=by omega
  have AL:=Zl i.o;clear f0 f3 s t g3 q m x;go_region
  go_wp2_with fail
  obtain⟨V,o,⟨P,S,U,Y,a⟩,E,C⟩:=Qnx (a':=(k:Int)+1) (b':=W.2.1) (c':=W.2.2) (d':=n) i.o A9 AA ⟨by unfold Qyn;have:=HK.o;omega,HI.o.1,HI.o.2,AC⟩ AE;rw[<-o];refine Ce (v:=.tuple #[.agg #[I Z ((k:Int)+1),I Z W.2.1,I Z W.2.2,I Z n,A p3 (Qmq W.1) c3],()]) (by simp[results,results18,go_sem,P,S,U,Y,a]) rfl ?_;have AG:(k:Int)+1=(W.1:Int):=by rw[HK.o];rfl
  rw[AG]at E⊢;rw[M.o,HD.o];exact⟨p3,c3,rfl,E.kept (Ai _ _).drew,C.drew⟩
def Q1b.elems{B b o e w}{xs:List e.den}{G}(h:Q1b B b o (.slice e) w xs G)(W:xs≠ []):
  ∃(E C F:Nat) (K:Nat->List Nat),(w,b,o,A (R (E,C)) xs F)/\∀i (H:i<xs.length),∃us:List Value,us=e.sz/\Qy2 w E (C+i * e.sz) us/\Ow e w us xs[i] (K i)/\(K i).Nodup/\(∀c∈K i,B<=c/\c<w.heap.size)/\∀k,k<i->∀c∈K i,c∉K k:=by
 obtain⟨cur,T,X,J,⟨v,L,Y⟩,a,d⟩:=h;rcases Y with⟨f,_⟩|⟨E,C,F,M,n,g,j,p,q,l,r,rfl,s,O⟩
 ·exact absurd f W
 have P:=(Ar.1 (Ar.1 a).2).2;refine⟨E,C,F,λi=>g.getD i [], ?_,λi H=> ?_⟩
 ·have:=(Q4b X o 1 (by simp only[Ty.sz]at J;omega)) 0 (by rw[Q0j (by simp only[Ty.sz]at J;omega)];omega)
  simp only[Ty.sz]at L;simp only[L,j]at this;simpa using this
 have S:C+i * e.sz+e.sz<=M.size:=by
  have U:i * e.sz+e.sz<=F * e.sz:=by rw[<-Nat.succ_mul];exact Bd _ (by omega)
  omega
 exact⟨Q17 M (C+i * e.sz) e.sz,Q0j S,Q4b l _ _ S,O i H,(List.pairwise_flatten.1 P).1 _ (Qf8 (by omega)),λc V=>⟨d c (Aa _ (Aa _ (Zv (by omega) V))),(O i H).lt c V⟩,λk t c U m=>Q9i P (by omega) (by omega) (by omega) m U⟩
def Qz7(w vs)(x:Qxb)(h:Rd Qh w vs x):Bv prog 146 #[.agg vs.toArray] w (oR w (wP x !=4)):=by
 obtain⟨_,C,rfl,⟨rfl,E⟩,B⟩:=h;obtain⟨F,G,H,J,rfl⟩:=Qnj (Rd.length B);clear B;obtain⟨K,r⟩:=x;go_enter func146,ntmps146;go_wp2
 go_ret;exact⟨rfl,by go_grown⟩
def Qz2{w b o}(p:Ye)(h:At Qv w b o p):
  Bv prog 93 #[(b,o)] w (oR w (.bool (Q2x p).isEmpty)):=by
 rw[Qz8];obtain⟨m,E,L⟩:=p;obtain⟨-,M,O,⟨P,-⟩,-,⟨S,T,B⟩⟩:=h.pool;have F:=D (Vw prog 146) (by intro _ _;kernel_rfl);have G:=qh B;clear B h;go_enter func93,ntmps93;go_wp2_with((go_at_call 145;(with_reducible refine(Qos _ _ E (λk=>wP k !=4) _ _ G F (λH vs x _ _ J=>Qz7 H vs x J)).mono ?_);rintro e U ⟨rfl,C⟩;have K:=qh C;clear C))
 go_ret;exact⟨rfl,K.o⟩
theorem Qzd{w}(bx B bk p W G)(V:Q1b B bx 0 Qif w (Qxg W) G)(q:Q88 bk p W)(hl:W.1.length<=400):
  Bv prog 45 #[(bx,0)] w λe w'=>∃v,e=.returned v/\Qy7 (.slice Qv) B w' [v] (Qmq W.1)/\(w,w'):=by
 have AG:=qh q;obtain⟨H0,f0⟩:=Qyj.fst V;obtain⟨bl,ol,cl,K,d0,r⟩:=Q1b.elems f0.hold (λe=>by have:=q.ne;rw[show W.1=[]from List.map_eq_nil_iff.1 (show W.1.map Qy6=[]from e)]at this;simp at this);have AH:=V.lt.1;have AV:=Nat.lt_of_le_of_lt V.young.1 AH;rw[show(Qxg W).1=W.1.map Qy6 from rfl]at r;rw[show(Qxg W).1=W.1.map Qy6 from rfl,De]at d0;have A4:=D (∀i (hi:i<W.1.length),∃us:List Value,us.length=10/\Qy2 w bl (ol+i * 10) us/\Ow Qak w us (Qy6 W.1[i]) (K i)/\(K i).Nodup/\(∀c∈K i,B<=c/\c<w.heap.size)/\∀k,k<i->∀c∈K i,c∉K k) (λi hi=>by have h:=r i (by rw[De];exact hi);rw[List.getElem_map]at h;exact h);have A5:=D (Ow (.slice Qv) w [jN] [] []) (Ow.nil w);clear V q f0 r;go_enter func45,ntmps45;go_wp2
 go_loopw [3,11] (λu i wr=>∃(j:Nat) (P:Option Addr) (S:Nat) (F:List Nat),j<=W.1/\i=I Z j/\u=A P (Qmq (W.1.take j)) S/\Hd (Ow (.slice Qv) wr [A P (Qmq (W.1.take j)) S] (Qmq (W.1.take j)) F)/\Hd F.Nodup/\Hd (∀b∈F,(∃k,k<j/\b∈K k)\/w<=b)/\Hd (∀b,(A P (Qmq (W.1.take j)) S).ownBlock=R b->w<=b)/\Hd (w,wr)) (λ_ i _=>W.1.length-(intOf i).toNat);case atStart=>exact⟨0,_,_,[],Ak _,rfl,rfl,A5.o,qh List.nodup_nil,qh (λb C=>by cases C),qh (λb C=>by simp[Value.ownBlock]at C),Ai _ _⟩
 clear A5;rename Bh=>wr
 obtain⟨j,P,S,F,Y,rfl,rfl,M,s,a,d,O⟩:=hrel;have A6:=O.o.size;by_cases t:j<W.1
 ·have J:=qh (Qp4 t)
  have A7:=Qqe (W.1.take j);rw[Cf]at A7;obtain⟨us,A8,f,g,A9,x,AA⟩:=A4.o j t;have AB:=(AG.o.pool _ (As t)).1;have z:Qz1 W.1[j]=(Q2x (fP W.1[j])).isEmpty:=rfl;obtain⟨X,hX⟩:∃X,X=W.1[j]:=⟨_,rfl⟩;rw[<-hX]at g J z AB;rw[z]at J;have f:=f.kb O;have g:=g.kept λc hc=>O.o.block c (x c hc).2;obtain⟨u0,u1,u2,u3,u4,u5,u6,u7,u8,u9,rfl⟩:=Qu1 A8;obtain⟨t1,t2,F1,F2,et,eF,A0,AC⟩:=g;obtain⟨q1,n1,c1,g1,g2,g3,q2,n2,c2,q3,n3,c3,g4,rfl⟩:=Qb1 A0.rd;obtain⟨s7,s8,s9,rfl⟩:=Qwe (Ow.length AC);simp only[Bw,Bs,Ed,and_true]at et;obtain⟨rfl,rfl,rfl,rfl,rfl,rfl,rfl,rfl,rfl,rfl⟩:=et;obtain⟨_,_,_,_,e1,rfl,⟨rfl,AI,rfl⟩,_,_,_,_,rfl,rfl,⟨rfl,-,rfl⟩,⟨rfl,-,rfl⟩⟩:=AC;simp only[Bw,Bs,Ed,and_true]at e1;obtain⟨rfl,rfl,rfl⟩:=e1;simp only[List.append_nil]at eF;subst eF;obtain⟨r0,r1,r2,r3,r4,r5,r6,r7,r8,r9⟩:=Qw0 f;have A1:=qh A0;have AJ:=qh A9;have AK:=qh x;have AL:=qh AA;obtain⟨T,A2⟩:∃T,T=Qmq (W.1.take j):=⟨_,rfl⟩;rw[<-A2]at M J A7 d;rw[<-A2];clear A8 f A0 hX AB z A9 x AA A2 AI;go_upto_region 5 with fail
  refine Qp λW6 A3=> ?_;have H:=D (wr,W6) (by rw[A3];go_grown);have AD:=D (W6,oC wr.heap.size #[A q1 n1 c1,g1,g2,g3,A q2 n2 c2,A q3 n3 c3,g4,I Z (Qy6 X).2.1,I Z (Qy6 X).2.2.1,I Z (Qy6 X).2.2.2] 90) (by rw[A3];exact Bg wr _);have AE:=qh (Qx4 AD (A1.o.rd.kb H));clear A3 r0 r1 r2 r3 r4 r5 r6 r7 r8 r9;cases hq:(Q2x (fP X)).isEmpty with
  |true=>
   have HQ:=qh hq;have L:=D (Qmq (W.1.take (j+1))=T++ [fP X]) (by rw[J.o,hq];rfl);clear hq J;go_upto_region 6 with((go_at_call 93;(with_reducible refine(Qz2 (fP X) AE).mono ?_);rintro e l ⟨rfl,C⟩;rw[HQ.o];have E:=qh C;clear C))
   have AM:=qh (Qf AD E);obtain⟨r0,r1,r2,r3,r4,r5,r6,-⟩:=Qw0 (w:=l) (b:=wr) (o:=0) (λj Y=>Q6 AM (by rw[Cg,List.getElem?_toArray];exact Ad Y));have AN:=qh (M.o.kept λb C=>(Q0 H E).block b (M.o.lt b C));have AF:=qh (A1.o.kept λb C=>(Q0 H E).block b (A1.o.lt b C));have AO:=D (∀b∈K j,b∉F) (λb U m=>(a.o b m).elim (λ⟨k,hk,h⟩=>AL.o k hk b U h) λh=>by have:=(AK.o b U).2;omega);go_wp2_with(at_builtin;refine Qd3 _ Qvb (.tmp 17) (.tmp 20) rfl rfl (xs:=T) (y:=fP X) l 1 rfl rfl (Q6e AN _) s.o (Q6e AF _) AJ AO (λj Y=>Q6 (Bg l _) (by rw[Cg,List.getElem?_toArray];exact Ad Y)) (Q84 AF) (by omega) ?_;intro p9 c9 w9 F9 U m h3 h4 n;have AP:=qh U;have AQ:=qh m;have AR:=qh h3;have AS:=qh n;have AT:=D (w,w9) ((O.o.trans (((Q0 H E).alloc (Q0 H E).size _).mono A6)).trans (h4.below (by have:=(Q0 H E).size;rw[Qxo];omega) λb C=>d.o b C.2));clear U m h3 h4 n)
   go_roundw;case rel=>
    have AW:=(Q0 H E).size;exact⟨j+1,p9,c9,F9,by omega,by go_num,by rw[L.o,Bo];rfl,(by rw[L.o,Bo];exact AP.o),AQ.o,λb C=>(AR.o b C).elim (λh=>(a.o b h).imp (λ⟨k,hk,h⟩=>⟨k,by omega,h⟩) λh=>h) λh=>h.elim (λh=> .inl ⟨j,by omega,h⟩) λh=> .inr (by rw[h,Qxo];omega),λb C=>by
     rw[L.o,Bo]at C;rcases AS.o with h|h
     ·exact d.o b (h▸C)
     rw[h]at C;simp only[Value.ownBlock,Option.some.injEq]at C;rw[Qxo]at C;omega,AT.o⟩
   simp[intOf];omega
  |false=>
   have HQ:=qh hq;have L:=D (Qmq (W.1.take (j+1))=T) (by rw[J.o,hq];rfl);clear hq J;go_wp2_with((go_at_call 93;(with_reducible refine(Qz2 (fP X) AE).mono ?_);rintro e l ⟨rfl,C⟩;rw[HQ.o];have E:=qh (Q0 H C);clear C))
   go_roundw;case rel=>exact⟨j+1,P,S,F,by omega,by go_num,by rw[L.o],by rw[L.o];exact M.o.kept λb C=>E.o.block b (M.o.lt b C),s.o,λb C=>(a.o b C).imp (λ⟨k,hk,h⟩=>⟨k,by omega,h⟩) λh=>h,by rw[L.o];exact d.o,O.o.trans (E.o.mono A6)⟩
   simp[intOf];omega
 have AU:=D (W.1.take j=W.1) (Ao (by omega));go_wp2
 go_ret;have hn:=M.o;rw[AU.o]at hn⊢;exact⟨_,rfl,⟨F,hn,s.o,λb C=>⟨(a.o b C).elim (λ⟨k,hk,h⟩=>by obtain⟨_,_,_,_,_,n,_⟩:=A4.o k (by omega);exact(n b h).1) λh=>by omega,hn.lt b C⟩⟩,O.o⟩
theorem Qnf{w}(p0 g)(bk:List Qy0)(A7:Rd (.slice Jl) w [A p0 bk g] bk)(AS:bk<=maxLen)(vs)(p:Ye)(M:Rd Qv w vs p)(hz:Qyv Qv p<=2000000)(most)(hm:Qyn most)(A8:Lib.TabIs prog w "internal/strconv.uint64pow10" .u64 Lib.pow10Tab):
  Bv prog 19 #[A p0 bk g,.agg vs.toArray,I Z most] w (Qzm (Qz6 bk p most) w):=by
 obtain⟨z,v1,v2,v3,v4,v5,v6,rfl⟩:=Qda (Rd.length M);have A9:=qh A7;have AA:=qh AS;have HP:=qh M;have HZ:=qh hz;have HM:=qh hm;have HT:=qh (Lib.tabBelow_of_tabIs A8);clear A7 M hz hm A8;go_enter func19,ntmps19;go_upto_region 1 with fail
 refine Qp λO U=> ?_;have AT:=D (O,oC w.heap.size #[z,v1,v2,v3,v4,v5,v6] 46) (by rw[U];exact(Jt w _ _ _ _).1);have HX:=D (O.heap[w.heap.size+1]?=R (Qn3 0 0 0 0 (A N 0 0))) (by rw[U];exact(Jt w _ _ _ _).2);have H:=D (w,O) (by rw[U];go_grown);have AB:=D (O.heap.size=w+2) (by rw[U];simp);clear U;obtain⟨a0,a1,a2,a3,a4,a5,a6⟩:=Q0t AT;cases hE:Q5w bk p most with
 |inl c=>
  have Y:=qh (Qrx hE);have a:=qh hE;clear hE;go_upto_region 2 with((go_at_call 33;(with_reducible refine(Qc4 p0 g bk (A9.o.kb H) AA [z,v1,v2,v3,v4,v5,v6] p (HP.o.kb H) HZ most HM (HT.o.on H).here).mono ?_);rintro e w2 h;rw[a.o]at h;obtain⟨C,hc,hi,rfl⟩:=h.l;have P:=qh C;have HC:=qh hc;clear C hc hi h))
  have AZ:(c !=0)=true:=by have:=HC.o;simpa using this
  have AC:=qh (Qf HX P);obtain⟨⟨r0,r1,r2,r3,r4⟩,rf⟩:=Qrd AC;go_wp2_with fail
  obtain⟨W,hW,⟨b,S,T,d,f⟩,E,C⟩:=Qnx (B:=w2) (a':=0) (b':=0) (c':=0) (d':=0) AC (Q0 H P) (by have:=AB.o;have:=P.o.size;omega) (by unfold Qyn;omega) (Qy7.nil _ w2);rw[<-hW];refine Ce (v:=.tuple #[.agg #[(),(),(),(),jN],I Z c]) (by simp[results,results19,go_sem,b,S,T,d,f]) rfl ?_;rw[Y.o];exact⟨N,0,rfl,E,C⟩
 |inr W=>
  obtain⟨AD,AE⟩:=Qg2 hE;have A0:=qh AD;have a:=qh hE;clear hE AD;go_upto_region 2 with((go_at_call 33;(with_reducible refine(Qc4 p0 g bk (A9.o.kb H) AA [z,v1,v2,v3,v4,v5,v6] p (HP.o.kb H) HZ most HM (HT.o.on H).here).mono ?_);rintro e w2 h;rw[a.o]at h;obtain⟨C,i,G,rfl,M⟩:=h.r;have P:=qh C;have AF:=qh M;clear C M h))
  clear a0 a1 a2 a3 a4 a5 a6;go_upto_region 5 with((go_at_call 45;(with_reducible refine(Qzd i _ bk p W G AF A0 AE).mono ?_);rintro e F ⟨v,rfl,E,C⟩;obtain⟨p3,c3,rfl⟩:=V6 E;have AU:=qh E;have A1:=qh C;clear E C))
  have AG:=D (w,F) (Q0 H (Q0 P A1));have j:=qh (Qf HX (Q0 P A1));have AH:=D (w.heap.size<=w+1/\w.heap.size+1<O.heap.size) (by have:=AB.o;omega);obtain⟨⟨r0,r1,r2,r3,r4⟩,rf⟩:=Qrd j.o;by_cases AI:40<(Qmq W.1).length
  ·have Y:=qh (Qoz a.o AI)
   have AV:(40:Int)<((Qmq W.1):Int):=by omega
   go_wp2_with fail
   obtain⟨V,hV,⟨b,S,T,d,f⟩,E,C⟩:=Qnx (B:=O) (a':=0) (b':=0) (c':=0) (d':=0) j.o AG AH (by unfold Qyn;omega) (Qy7.nil _ F);rw[<-hV];refine Ce (v:=.tuple #[.agg #[(),(),(),(),jN],I Z 4]) (by simp[results,results19,go_sem,b,S,T,d,f]) rfl ?_;rw[Y.o];exact⟨N,0,rfl,E,C⟩
  have Y:=qh (Quz a.o AI);have AV:¬(40:Int)<((Qmq W.1):Int):=by omega
  go_upto_region 7 with fail
  have m:=qh (AF.o.kept (X:=λ_=>False) (Ay A1) λ_ _ h=>h);obtain⟨k,hk,A2,A3⟩:=Qs5 A0 AE;have n:k<W.1:=by omega
  have AJ:W.1[k]=Q04 p W (W.1.length-1):=by rw[Ad n]at A2;exact Option.some.inj A2
  obtain⟨_,f0⟩:=Qyj.fst m.o;obtain⟨bl,ol,cl,K,q,AK⟩:=Q1b.elems f0.hold (λe=>by have:=A0.o.ne;rw[show W.1=[]from List.map_eq_nil_iff.1 (show W.1.map Qy6=[]from e)]at this;simp at this);obtain⟨_,f4⟩:=Qyj.at1 m.o;obtain⟨_,f5⟩:=Qyj.last1 m.o;have s:=f4.hold.int.1;have t:=f5.hold.int.1;have HI:=qh (And.intro f4.hold.int.2.1 f5.hold.int.2.1);obtain⟨us,AL,u,A4,-⟩:=AK k (by rw[show(Qxg W).1=W.1.map Qy6 from rfl,De];exact n);rw[show(Qxg W).1[k]'(by rw[show(Qxg W).1=W.1.map Qy6 from rfl,De];exact n)=Qy6 (Q04 p W (W.1.length-1))by rw[<-AJ];exact List.getElem_map ..]at A4;replace q:F.cell? (i,0)=R (A (R (bl,ol)) (k+1) cl):=by rw[q,show(Qxg W).1=W.1.map Qy6 from rfl,De,hk]
  replace s:F.cell? (i,1)=R (I Z W.2.1):=s;replace t:F.cell? (i,2)=R (I Z W.2.2):=t;obtain⟨X,hX⟩:∃X,Q04 p W (W.1.length-1)=X:=⟨_,rfl⟩;rw[hX]at A4 A3;obtain⟨u0,u1,u2,u3,u4,u5,u6,u7,u8,u9,rfl⟩:=Qu1 AL;obtain⟨S,T,F1,F2,et,eF,AM,AN⟩:=A4;obtain⟨q1,n1,c1,g1,g2,g3,q2,n2,c2,q3,n3,B0,g4,rfl⟩:=Qb1 AM.rd;obtain⟨s7,s8,s9,rfl⟩:=Qwe (Ow.length AN);simp only[Bw,Bs,Ed,and_true]at et;obtain⟨rfl,rfl,rfl,rfl,rfl,rfl,rfl,rfl,rfl,rfl⟩:=et;obtain⟨_,_,_,_,e1,-,⟨rfl,-,-⟩,_,_,_,_,rfl,-,⟨rfl,-,-⟩,⟨rfl,-,-⟩⟩:=AN;simp only[Bw,Bs,Ed,and_true]at e1;obtain⟨rfl,rfl,rfl⟩:=e1;obtain⟨J,y⟩:∃J,fD X=J:=⟨_,rfl⟩;rw[y]at A3;rw[show(Qy6 X).2.1=J from y]at u;obtain⟨i8,AO⟩:∃x,(Qy6 X).2.2.1=x:=⟨_,rfl⟩;obtain⟨i9,AP⟩:∃x,(Qy6 X).2.2.2=x:=⟨_,rfl⟩;rw[AO,AP]at u;obtain⟨s0,s1,s2,s3,s4,s5,s6,s7,s8,s9⟩:=Qw0 (o:=ol+k * 10) u;have HK:=qh hk;have HD:=D (fD (Q04 p W (W.1.length-1))=J) (by rw[hX];exact y);have B1:IntKind.i64.wrap (k:Int)=(k:Int):=by simp only[IntKind.wrap_i64];omega
  have B2:(k:Int)<(k:Int)+1:=by omega
  have B3:(0:Int)<=(k:Int):=by omega
  have AQ:=m.o.lt.1;have AW:=Zl j.o;have AR:=Ac F _ s0;simp only at AR;clear f0 f4 f5 A2 hk hX AK AL u eF AM AO AP y AJ n;go_region
  go_upto_region 8 with fail
  refine Qp λW7 A5=> ?_;have L:=D (F,W7) (by rw[A5];go_grown);have e7:W7.cell? (F,7)=R (I Z J):=by rw[A5];simp[go_sem]
  clear A5;have q:=jC L q;have s:=jC L s;have t:=jC L t;have A6:=qh (Qf j.o L);have B4:=Zl A6;have B5:=Ap AQ L.o.size;have AX:=Ac W7 _ e7;simp only at AX;clear r0 r1 r2 r3 r4 rf;obtain⟨⟨r0,r1,r2,r3,r4⟩,rf⟩:=Qrd A6;clear s0 s1 s2 s3 s4 s5 s6 s7 s8 s9 AW AR AQ;go_region
  go_wp2_with fail
  obtain⟨V,hV,⟨b,S,T,d,f⟩,E,C⟩:=Qnx (a':=(k:Int)+1) (b':=W.2.1) (c':=W.2.2) (d':=J) A6 (Q0 AG L) AH ⟨by unfold Qyn;have:=HK.o;omega,HI.o.1,HI.o.2,A3⟩ (AU.o.kept L);rw[<-hV];refine Ce (v:=.tuple #[.agg #[I Z ((k:Int)+1),I Z W.2.1,I Z W.2.2,I Z J,A p3 (Qmq W.1) c3],()]) (by simp[results,results19,go_sem,b,S,T,d,f]) rfl ?_;have AY:(k:Int)+1=(W.1:Int):=by rw[HK.o];rfl
  rw[AY]at E⊢;rw[Y.o,HD.o];exact⟨p3,c3,rfl,E.kept (Ai _ _).drew,C.drew⟩
def Qsy{w}(a b c d:Int)(v u)(L:List Ye)(h:Rd (.slice Qv) w [v] L)(k:Rd (.slice Qv) w [u] L):
  Bv prog 20 #[.agg #[a,b,c,d,v],.agg #[a,b,c,d,u]] w (oR w (.bool true)):=by
 have H:=qh h;have K:=qh k;have M:=D (Qyo (.slice Qv) L L=true) (Z5.2 rfl);obtain⟨O,P,rfl,-⟩:=(Ju h).gen;obtain⟨S,T,rfl,-⟩:=(Ju k).gen;clear h k;go_enter func20,ntmps20;go_upto_region 1 with fail
 refine Qp λB C=> ?_;have E:=D (w,B) (by rw[C];go_grown);obtain⟨F,G⟩:(B,oC w.heap.size #[a,b,c,d,A O L P] 57)/\(B,oC (w.heap.size+1) #[a,b,c,d,A S L T] 57):=by rw[C];exact Jt w _ _ _ _
 clear C;obtain⟨V,W,X,Y,f⟩:=(Qrd F).1;obtain⟨g,i,j,l,m⟩:=(Qrd G).1;clear F G;go_wp2_with((go_at_call 46;(with_reducible refine jR (Qz4 _ _ _ L L (H.o.kb E) (K.o.kb E)) λw1 J=> ?_);rw[M.o];have U:=qh (Q0 E J);clear J))
 go_ret;exact⟨rfl,U.o⟩
def Qz5{w}(a b c d v)(L:List Ye)(F)(k:Int)(h:Ow (.slice Qv) w [v] L F)(B:F.Nodup)(G:0<=k)(J:k+(Y3 Qv L:Nat)<=1000000000):
  Bv prog 21 #[.agg #[I Z a,I Z b,I Z c,I Z d,v],I Z k] w λe w'=>e=.returned (I Z (k+(Y3 Qv L:Nat)))/\Ow (.slice Qv) w' [v] (mk (.slice Qv) L k) F/\Q1 (λc=>c∈F) w w':=by
 have K:=qh B;have H:=qh (Q6e h (.cells #[I Z a,I Z b,I Z c,I Z d,v] 57));have P:=qh h.lt;obtain⟨S,T,rfl,-⟩:=h.gen;clear h B;go_enter func21,ntmps21;go_wp2_with((go_at_call 47;(with_reducible refine(Qte _ _ L F k H K G J).mono ?_);rintro e w1 ⟨rfl,C,E⟩;have M:=qh C;have O:=qh E;clear C E))
 go_ret;exact⟨rfl,M.o,((Q1.refl _ _).alloc _).trans O⟩
def Qs4{w}(a b c d v)(L:List Ye)(k)(h:Rd (.slice Qv) w [v] (mk (.slice Qv) L k))(C:0<=k)(B:k+(Y3 Qv L:Nat)<=1000000000):
  Bv prog 22 #[.agg #[I Z a,I Z b,I Z c,I Z d,v],I Z k] w (oR w (I Z (k+(Y3 Qv L:Nat)))):=by
 have H:=qh (h.kb (show Below w w (w.alloc (.cells #[I Z a,I Z b,I Z c,I Z d,v] 57))by go_grown));obtain⟨F,G,rfl,-⟩:=(Ju h).gen;clear h;have J:¬(k+(Y3 Qv L:Nat)<0):=by omega
 go_enter func22,ntmps22;go_wp2_with((go_at_call 48;(with_reducible refine jR (Qtj _ _ L k H C B) λw1 B=> ?_);have E:=qh (Q0 (show Below w w _ by go_grown) B);clear B))
 go_ret;exact⟨rfl,E.o⟩
end Go.Proofs.YtcjngpfigpglfaaGreatDoor
