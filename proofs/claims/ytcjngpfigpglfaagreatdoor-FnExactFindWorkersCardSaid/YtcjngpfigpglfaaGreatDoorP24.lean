import Derived.Test.YtcjngpfigpglfaaGreatDoorP14
import Derived.Test.YtcjngpfigpglfaaGreatDoorP23
set_option maxHeartbeats 0
set_option maxRecDepth 100000
set_option linter.all false
namespace Go.Proofs.YtcjngpfigpglfaaGreatDoor
open Go.RowKit Go.Proofs.Tryz
open Go.Value renaming int->I,slice->A
open Go.IntKind renaming i64->Z
open Option renaming none->N,some->R
open OC(oC)
open OR(oR)
open JN(jN)
open Go renaming World->Bh,Calls->Bv,heap_alloc_new->Bg
open Go.RowKit renaming intOf->By,Below->Bp
open Go.World renaming cell?_setCell_same->Bx,cell?_setCell_other->Df
open List renaming replicate->Ch,length_map->De,length_singleton->Dg
def Qai(w:Bh)(g n:Nat)(f:Nat->Int):Prop:=∀i,i<n->(w,g,i,(f i))/\w.frozen? ⟨g,i,N⟩=false
def Qu5(w:Bh)(g:Nat)(T:TypeId)(k:Nat):Prop:=∃cur,(w,oC g cur T)/\cur.size=k
theorem Qu5.set{w g k}{o:Nat}{T}(h:Qu5 w g T k)(v):Qu5 (w.setCell (g,o) v) g T k:=let ⟨_,h1,h2⟩:=h;⟨_,Z1 h1,by rw[Array.size_setIfInBounds];exact h2⟩
def Q92(n s:Nat)(x:Nat->Int)(i:Nat):Int:=if i<s\/n-1-s<i then x (n-1-i)else x i
def Qai.flip{w g n s x}(h:Qai w g n (Q92 n s x))(H:s<n-1-s):
  Qai ((w.setCell (g,s) (x (n-1-s))).setCell (g,n-1-s) (x s)) g n (Q92 n (s+1) x):=by
 intro i B;have C:∀i,i<n->w.cell? ⟨g,i,N⟩=R (I Z (Q92 n s x i)):=λi B=>(h i B).1;refine⟨?_,by rw[World.frozen?_setCell,World.frozen?_setCell];exact(h i B).2⟩;by_cases E:i=n-1-s
 ·subst E
  rw[Bx _ _ _ (by rw[Df _ _ _ _ (by simp<;>omega)];exact C _ (by omega))];unfold Q92;rw[if_pos (by omega)];congr 3;omega
 rw[Df _ _ _ _ (by simpa using λe=>E e.symm)];by_cases F:i=s
 ·subst F
  rw[Bx _ _ _ (C _ (by omega))];unfold Q92;rw[if_pos (by omega)]
 rw[Df _ _ _ _ (by simpa using λe=>F e.symm),C i B];unfold Q92;by_cases G:i<s\/n-1-s<i
 ·rw[if_pos G,if_pos (by omega)]
 rw[if_neg G,if_neg (by omega)]
def Qvy{w}(p g n S x)(G:0<n->p=R ⟨g,0,N⟩)(f:n<=1000000)(h:Qai w g n x){T c}(H:p≠N->Qu5 w g T c):
  Bv prog 37 #[A p n S] w λe w'=>e=.returned (.tuple #[])/\Q1 (λc=>c=g) w w'/\(p≠N->Qu5 w' g T c)/\∀i,i<n->w'.cell? ⟨g,i,N⟩=R (I Z (x (n-1-i))):=by
 have U:=qh G;have J:=qh h;have V:=qh H;clear G h H;go_enter func37,ntmps37;go_wp2;go_loopw [2,3] (λa b wr=>∃(s:Nat) (B:Int),a=I Z s/\b=I Z B/\B=(n:Int)-1-s/\Hd (2 * s<=n)/\Hd (Qai wr g n (Q92 n s x))/\Hd (Q1 (λc=>c=g) w wr)/\Hd (p≠N->Qu5 wr g T c)) (λa _ _=>n-(By a).toNat);case atStart=>exact⟨0,_,rfl,by rfl,by omega,qh (by omega),(show Qai _ g n _ from λi C=>⟨by have h:=(J.o i C).1;unfold Q92;rw[if_neg (by omega)];exact h,(J.o i C).2⟩),qh (Q1.refl _ _),V.o⟩
 obtain⟨s,B,rfl,rfl,W,X,E,K,L⟩:=hrel;by_cases l:(s:Int)<B
 ·obtain⟨j,rfl⟩:∃j:Nat,B=(j:Int):=⟨B.toNat,by omega⟩
  have M:j=n-1-s:=by omega
  have m:j<n:=by omega
  have q:s<n:=by omega
  obtain rfl:=U.o (by omega);obtain⟨Y,f1⟩:=E.o s (by omega);obtain⟨d,r⟩:=E.o j (by omega);have O:Q92 n s x s=x s:=by unfold Q92;rw[if_neg (by omega)]
  have P:Q92 n s x j=x j:=by unfold Q92;rw[if_neg (by omega)]
  rw[O]at Y;rw[P]at d;have F:=qh M;clear O P W M;go_wp2_with fail
  go_region
  all_goals
   go_wp2
   go_roundw;case rel=>exact⟨s+1,_,by go_num,rfl,(by have:=F.o;omega),(show Hd (2 * (s+1)<=n)from qh (by have:=F.o;omega)),(show Qai _ g n _ by have h:=E.o.flip (by have:=F.o;omega);rw[<-F.o]at h;exact h),qh (let k:=(K.o.setCell (p:=⟨g,s,N⟩) rfl (x j)).setCell (p:=⟨g,j,N⟩) rfl (x s);⟨k.1,k.2,k.3,k.4,k.5⟩),qh (λh=>((L.o h).set (o:=s) (x j)).set (o:=j) (x s))⟩
   simp[By];omega
 go_wp2_with fail
 go_end0
 refine⟨rfl,K.o,L.o,λi C=> ?_⟩;rw[(E.o i C).1];have:=X.o;unfold Q92;split
 ·rfl
 rw[show n-1-i=i by omega]
def Qxu.rev{e B w v}{L:List Int}(h:Qxu .int e B w v L)(j:B<=w):∃p E g k,v=A p L E/\B<=g/\(0<L.length->p=R ⟨g,0,N⟩)/\Qai w g L (λi=>L.getD i 0)/\(p≠N->Qu5 w g e k)/\
  ∀w':Bh,(p≠N->Qu5 w' g e k)->(∀i,i<L.length->w'.cell? ⟨g,i,N⟩=R (I Z (L.getD (L.length-1-i) 0)))->Qy7 (.slice .int) B w' [v] L.reverse:=by
 obtain⟨h,P⟩:=h;rcases h.2 with⟨rfl,F⟩|⟨g,E,cur,rfl,M,G,F,S,T,U⟩
 ·obtain rfl:=List.eq_nil_of_length_eq_zero F
  exact⟨N,0,B,0,rfl,Aj _,λh=>by simp at h,λi C=>by simp at C,λh=>absurd rfl h,λw' _ _=>Qy7.nil _ _⟩
 refine⟨_,E,g,cur.size,rfl,M,λ_=>rfl,λi C=> ?_,λ_=>⟨_,G,rfl⟩,λw' V W=> ?_⟩
 ·refine⟨Q6 G ?_,by simp[World.frozen?,G]⟩
  have O:cur.toList.take (L.length * 1)=L.map (I Z):=by rw[<-Q70];exact U
  rw[Nat.mul_one]at O;rw[<-Array.getElem?_toList];have X:(cur.toList.take L)[i]?=cur.toList[i]?:=by rw[List.getElem?_take,if_pos C]
  rw[<-X,O];simp[C]
 obtain⟨H,J,Y⟩:=V (by simp);refine⟨[g],⟨_,rfl,.inr ⟨g,0,E,H,e,Ch L [],by rw[List.length_reverse],by rw[List.length_reverse];exact F,S,J,by rw[Y,T];omega,by simp,by simp,λi C=> ?_⟩⟩,by simp,by simp;exact⟨M,(Al.1 J).1⟩⟩;rw[List.length_reverse]at C;have a:L.reverse[i]'(by rw[List.length_reverse];exact C)=L.getD (L.length-1-i) 0:=by rw[List.getElem_reverse,Ab,Ad (by omega)];rfl
 have K:=W i C;unfold World.cell? at K;rw[J]at K;have b:H.toList[i]?=R (I Z (L.getD (L.length-1-i) 0)):=by rw[Array.getElem?_toList];simpa using K
 have c:(Ch L ([]:List Nat)).getD i []=[]:=by rw[Ab,List.getElem?_replicate];simp[C]
 rw[c,a];obtain⟨d,f⟩:=List.getElem?_eq_some_iff.1 b;refine⟨?_, ?_,rfl⟩
 ·show(H.toList.drop (0+i * 1)).take 1=_
  rw[Nat.zero_add,Nat.mul_one,List.drop_eq_getElem_cons d,f];rfl
 rw[Ab,Ad (by omega)];exact P _ (As _)
def Qx8(R:List Int×Int)(w:Bh)(e:Ending)(w':Bh):Prop:=∃v,e=.returned (.tuple #[v,R.2])/\Qy7 (.slice .int) w w' [v] R.1/\(w,w')
theorem Qjp(W:Q10)(q:Ye):Q5z (λx:Qak.den=>Qyo Qv x.1 q) (Qxg W).1=match Q25 W q with
  |some j=>(j:Int)
  |none=> -1:=by
 unfold Q5z Q25 Qxg;simp only[];rw[List.findIdx?_map];rfl
def Qsi{bk p W}(h:Q88 bk p W){k:Nat}(B:k<W.1)(C:0<k):Q3b p W k k=fB (Q04 p W k)::Q3b p W (fF (Q04 p W k)).toNat (fF (Q04 p W k)).toNat:=by
 have e:=congrArg List.reverse (Qlf h B C);simpa using e
theorem Qki{w}(p0 c0)(bk:List Qy0)(AI:Rd (.slice Jl) w [A p0 bk.length c0] bk)(B0:bk.length<=maxLen)(vs)(p:Ye)(T:Rd Qv w vs p)(hz:Qyv Qv p<=2000000)(us)(q:Ye)(hq:Rd Qv w us q)(B1:Qyv Qv q<=2000000)(most)(hm:Qyn most)(AJ:Lib.TabIs prog w "internal/strconv.uint64pow10" .u64 Lib.pow10Tab):
  Bv prog 10 #[A p0 bk.length c0,.agg vs.toArray,.agg us.toArray,I Z most] w (Qx8 (Q1p bk p q most) w):=by
 obtain⟨v0,v1,v2,v3,v4,v5,v6,rfl⟩:=Qda (Rd.length T);obtain⟨u0,u1,u2,u3,u4,u5,u6,rfl⟩:=Qda (Rd.length hq);have AK:=qh AI;have AL:=qh B0;have HP:=qh T;have HQ:=qh hq;have HZ:=qh hz;have HM:=qh hm;have HT:=qh (Lib.tabBelow_of_tabIs AJ);have A5:=Q8z q;have AM:=D ((Z8 (pM q)).length+(Jd (pW q)).length<=10000000) (by have:=A5.1;omega);have AN:=D ((Qr (pW q)).length<=10000000) (by have:=A5.2;omega);have HR:=qh (Qcg bk p q most);obtain⟨i0,B2,B3,B4,B5⟩:=info_parts Q2v;clear AI T hq hz B1 A5 hm AJ;go_enter func10,ntmps10;go_upto_region 1 with fail
 refine Qp ?_;intro U A0;have A6:=D (U.heap[w.heap.size]?=R (.cells #[v0,v1,v2,v3,v4,v5,v6] 46 (0,0))/\U.heap[w.heap.size+1]?=R (.cells #[u0,u1,u2,u3,u4,u5,u6] 46 (0,0))) (by rw[A0];exact Jt w _ _ _ _);have A7:=D (Bp w.heap.size w U) (by rw[A0];go_grown);have BM:=D (w.heap.size<=U.heap.size) (by rw[A0];simp;omega);clear A0;have B6:=D (∀V,Bp U.heap.size U V->V.cell? ⟨w.heap.size,0,N⟩=R v0/\V.cell? ⟨w.heap.size,1,N⟩=R v1/\V.cell? ⟨w.heap.size,2,N⟩=R v2/\V.cell? ⟨w.heap.size,3,N⟩=R v3/\V.cell? ⟨w.heap.size,4,N⟩=R v4/\V.cell? ⟨w.heap.size,5,N⟩=R v5/\V.cell? ⟨w.heap.size,6,N⟩=R v6) (λV h=>Q0t (Qf A6.o.1 h));obtain⟨b0,K,b2,b3,b4,b5,b6⟩:=Q0t A6.o.2;have A8:=qh (HQ.o.kept (Am A7.o));cases hok:Jw q with
 |false=>
  have F:=D (Q1p bk p q most=([],1)) (by rw[HR.o,hok];rfl);have d:=qh hok;clear hok;go_wp2_with((go_at_call 32;(with_reducible refine(Qbr [u0,u1,u2,u3,u4,u5,u6] q A8.o AM.o AN.o).mono ?_);rintro e w1 ⟨rfl,C⟩;rw[d.o];have f:=qh C;clear C))
  go_ret2
  exact⟨_,by rw[F.o]<;>rfl,by rw[F.o];exact Qy7.nil _ _,Q0 A7.o f.o⟩
 |true=>
  have d:=qh hok;clear hok;go_upto_region 3 with((go_at_call 32;(with_reducible refine(Qbr [u0,u1,u2,u3,u4,u5,u6] q A8.o AM.o AN.o).mono ?_);rintro e w1 ⟨rfl,C⟩;rw[d.o];have f:=qh C;clear C))
  clear b0 K b2 b3 b4 b5 b6;obtain⟨a0,a1,a2,a3,a4,a5,a6⟩:=B6.o _ f.o;have M:=qh (Q0 A7.o f.o);cases hE:Q5w bk p most with
  |inl c=>
   have F:=D (Q1p bk p q most=([],c)) (by rw[HR.o,d.o,hE];rfl);have HE:=qh hE;clear hE;go_upto_region 4 with((go_at_call 33;(with_reducible refine(Qc4 p0 c0 bk (AK.o.kept (Am M.o)) AL.o [v0,v1,v2,v3,v4,v5,v6] p (HP.o.kept (Am M.o)) HZ.o most HM.o (HT.o.on M.o).here).mono ?_);rintro e w2 h;rw[HE.o]at h;obtain⟨C,P,hi,rfl⟩:=h.l;have m:=qh C;have HC:=qh P;clear C P hi h))
   have BN:(c !=0)=true:=by have:=HC.o;simpa using this
   go_wp2_with fail
   go_ret2
   exact⟨_,by rw[F.o]<;>rfl,by rw[F.o];exact Qy7.nil _ _,Q0 M.o m.o⟩
  |inr W=>
   obtain⟨AO,BO⟩:=Qg2 hE;have A9:=qh AO;have HE:=qh hE;have AP:=D (Q1p bk p q most=match Q25 W q with|none=>([],3)|some j=>((Q3b p W j j).reverse,0)) (by rw[HR.o,d.o,hE];rfl);clear hE AO;go_upto_region 6 with((go_at_call 33;(with_reducible refine(Qc4 p0 c0 bk (AK.o.kept (Am M.o)) AL.o [v0,v1,v2,v3,v4,v5,v6] p (HP.o.kept (Am M.o)) HZ.o most HM.o (HT.o.on M.o).here).mono ?_);rintro e w2 h;rw[HE.o]at h;obtain⟨C,n,G,rfl,T⟩:=h.r;have m:=qh C;have B7:=qh T;clear C T h))
   have AA:=qh (B7.o.low (B:=0) (Ak _));have BP:=qh m.o;have AQ:=D (Bp w.heap.size w w2) (Q0 M.o m.o);obtain⟨_,f0⟩:=Qyj.fst AA.o;obtain⟨pl,cl,d0,AR⟩:=f0.hold.slice;have B8:=D (At Qv w2 (w.heap.size+1) 0 q) ((At.ofBox (us:=[u0,u1,u2,u3,u4,u5,u6]) A6.o.2 A8.o).kept (Am (Q0 f.o m.o)));have B9:=D (Vw prog 35) (by intro _ _;kernel_rfl);have A1:=D (Bv prog 34 #[A pl W.1.length cl,.func (.func 35) #[] #[.pointer (R ⟨w.heap.size+1,0,N⟩)]] w2 λe w'=>e=.returned (I Z (match Q25 W q with|some j=>(j:Int)|none=> -1))/\Bp w2.heap.size w2 w') (by
    have h:=Qhv w2 (A pl (Qxg W).1.length cl) (Qxg W).1 (λx=>Qyo Qv x.1 q) _ #[.pointer (R ⟨w.heap.size+1,0,N⟩)] AR.rd B9.o λwx vs x _ C hr=>Qsg wx vs x q hr (B8.o.kept (Am C));rw[Qjp]at h;have e:(Qxg W).1.length=W.1.length:=by simp[Qxg]
    rw[e]at h;exact h)
   replace d0:w2.cell? ⟨n,0,N⟩=R (A pl W.1.length cl):=by rw[d0];simp[Qxg]
   have BA:=AA.o.lt.1;clear f0 AR a0 a1 a2 a3 a4 a5 a6;cases hpl:Q25 W q with
   |none=>
    have F:=D (Q1p bk p q most=([],3)) (by rw[AP.o,hpl]);rw[hpl]at A1;clear hpl;go_wp2_with((go_at_call 34;(with_reducible refine A1.o.mono ?_);rintro e E ⟨rfl,o⟩;have A2:=qh o;clear o))
    go_ret2
    exact⟨_,by rw[F.o]<;>rfl,by rw[F.o];exact Qy7.nil _ _,Q0 AQ.o A2.o⟩
   |some j=>
    have F:=D (Q1p bk p q most=((Q3b p W j j).reverse,0)) (by rw[AP.o,hpl]);rw[hpl]at A1;have BB:=Qfw hpl;clear hpl;go_upto_region 9 with((go_at_call 34;(with_reducible refine A1.o.mono ?_);rintro e E ⟨rfl,o⟩;have A2:=qh o;clear o))
    have AB:=qh (AA.o.kept (X:=λ_=>False) (Ay A2.o) λ_ _ h=>h);have AC:=D (Bp w.heap.size w E) (Q0 AQ.o A2.o);clear d0 BA;go_wp2_with fail
    go_loopw [12,13] (λx y wr=>∃(k:Nat) (L:List Int),x=I Z k/\k<W.1.length/\L.length+k<=400/\Hd (Q3b p W j j=L++Q3b p W k k)/\Hd (Qxu .int 2 E.heap.size wr y L)/\Hd (Bp E.heap.size E wr)) (λx _ _=>(By x).toNat);case atStart=>exact⟨j,[],rfl,BB,(by simp;omega),qh (by simp),qh (Qxu.empty .int _ _ _),qh (Ai _ _)⟩
    case round=>
     obtain⟨k,L,rfl,s,hL,HW,A3,Y⟩:=hrel;have AS:Q04 p W k=W.1[k]:=by unfold Q04;rw[Ab,Ad s];rfl
     obtain⟨_,f1⟩:=Qyj.fst AB.o;obtain⟨K,a,c1,H1,H,g1⟩:=Qyj.elem f1.hold k (by simp only[Qxg,De];exact s);obtain⟨_,g2⟩:=Qyj.snd g1.hold;obtain⟨_,g3⟩:=Qyj.at1 g2.hold;obtain⟨_,g4⟩:=Qyj.last1 g2.hold;have A4:(Qxg W).1[k]'(by simp only[Qxg,De];exact s)=Qy6 (Q04 p W k):=by rw[AS];simp only[Qxg,List.getElem_map]
     have J:E.cell? ⟨K,a+k * 10+8,N⟩=R (I Z (Qy6 (Q04 p W k)).2.2.1):=by rw[<-A4];exact g3.hold.int.1
     have O:E.cell? ⟨K,a+k * 10+9,N⟩=R (I Z (Qy6 (Q04 p W k)).2.2.2):=by rw[<-A4];exact g4.hold.int.1
     have u:Qyn (Qy6 (Q04 p W k)).2.2.2:=by rw[<-A4];exact g4.hold.int.2.1
     replace H:E.cell? ⟨n,0,N⟩=R (A (R ⟨K,a,N⟩) W.1.length c1):=by rw[H];simp[Qxg]
     obtain⟨pu,cu,rfl,BQ,BR⟩:=A3.o.form;have b:=qh Y.o.size;have BS:n<wr.heap.size:=Ap AB.o.lt.1 b.o;clear f1 g1 g2 g3 g4 A4 AS;by_cases AT:0<k
     ·have AD:=qh (Qsi A9.o s AT)
      obtain⟨BC,BD⟩:=A9.o.from_ k AT s;obtain⟨S,AU⟩:∃S:Nat,fF (Q04 p W k)=(S:Int):=⟨(fF (Q04 p W k)).toNat,by omega⟩;have z:(Qy6 (Q04 p W k)).2.2.1=(S:Int):=AU;have q4:(Qy6 (Q04 p W k)).2.2.2=fB (Q04 p W k):=by unfold Qy6;simp only;rw[if_neg (by omega)]
      rw[z]at J;rw[q4]at O u;obtain⟨x,hx⟩:∃x,x=fB (Q04 p W k):=⟨_,rfl⟩;rw[<-hx]at O u AD;have BE:=qh u;have BF:=D ((fF (Q04 p W k)).toNat=S) (by omega);rw[BF.o]at AD;have BT:S<k:=by omega
      have AV:=D (∀V,Bp E.heap.size E V->V.cell? ⟨n,0,N⟩=R (A (R ⟨K,a,N⟩) W.1.length c1)/\V.cell? ⟨K,a+k * 10+8,N⟩=R (I Z S)/\V.cell? ⟨K,a+k * 10+9,N⟩=R (I Z x)) (λV C=>⟨(Am C).cell _ _ H,(Am C).cell _ _ J,(Am C).cell _ _ O⟩);clear z q4 hx AU BC BD u H J O;obtain⟨H,J,O⟩:=AV.o _ Y.o;go_wp2_with(at_builtin;refine Ql _ rfl (.tmp 52) (.tmp 61) 34 rfl (t:=.int) (v:=A pu L.length cu) (xs:=L) (ys:=[x]) rfl (by decide) E.heap.size 2 i0 _ 8 underlying34 B2 B3 B4 B5 rfl (by decide) rfl rfl (A3.o.kept (show Bp wr.heap.size wr _ by go_grown)) ((Qxu.of_block (t:=.int) (xs:=[x]) (B:=wr.heap.size) (Bg wr _) (Aj _) rfl rfl (Q29 (t:=.int) BE.o) (by simp[maxLen])).rd rfl) (by simp only[Dg];omega) (by have:=b.o;simp;omega) ?_;intro v1 w5 AW AX;have BG:=qh AW;have AE:=D (Bp E.heap.size E w5) (Below.grown (Y.o.alloc b.o _) AX (by have:=b.o;simp;omega) (λi hi=>(A3.o.block i hi).1));clear H J O;obtain⟨H,J,O⟩:=AV.o _ AE.o;have BU:n<w5.heap.size:=Ap AB.o.lt.1 AE.o.size;clear AW AX)
      go_roundw;case rel=>exact⟨S,L++ [x],rfl,by omega,(by simp only[List.length_append,Dg];omega),(show Hd (_=_)from qh (by rw[HW.o,AD.o];simp)),BG.o,AE.o⟩
      case measure=>simp[By];omega
     ·obtain rfl:k=0:=by omega
      have z:(Qy6 (Q04 p W 0)).2.2.1=(-1:Int):=by rw[A9.o.first];rfl
      rw[z]at J;replace H:=(Am Y.o).cell _ _ H;replace J:=(Am Y.o).cell _ _ J;have AY:=D (Q1p bk p q most=(L.reverse,0)) (by rw[F.o,HW.o];simp[Q3b]);obtain⟨_,_,g,kb,ev,hg,AZ,AF,AG,AH⟩:=A3.o.rev b.o;simp only[Value.slice.injEq,true_and]at ev;obtain⟨rfl,rfl⟩:=ev;have AF:=qh AF;have AH:=qh AH;have AG:=qh AG;have BH:=qh AZ;have BI:=qh hg;clear z O u AZ hg;go_wp2_with((go_at_call 37;(with_reducible refine(Qvy pu g L.length cu (λi=>L.getD i 0) BH.o (by omega) AF.o AG.o).mono ?_);rintro e w5 ⟨rfl,hf,hn,P⟩;have BJ:=qh hf;have BK:=qh P;have BL:=qh hn;clear hf P hn))
      go_ret2
      exact⟨_,by rw[AY.o]<;>rfl,by rw[AY.o];exact(AH.o _ BL.o BK.o).lo AC.o.size,AC.o.trans ((Y.o.trans (BJ.o.below b.o λc P=>P▸BI.o)).mono AC.o.size)⟩
def Qnc{bk:List Qy0}{p q:Ye}(F:Qyv (.slice Jl) bk<=1048576)(G:Qyv Qv p<=1048576)(H:Qyv Qv q<=1048576):Y3 Jl bk<=10000000/\(Y3 Q4 p.1.1<=10000000/\Y3 Q5 p.1.2.2.2<=10000000/\Y3 Qh p.2.1<=10000000)/\(Y3 Q4 q.1.1<=10000000/\Y3 Q5 q.1.2.2.2<=10000000/\Y3 Qh q.2.1<=10000000):=by
 have e:∀p:Ye,Qyv Qv p=Qyv (.slice Q4) p.1.1+(0+(0+0+Qyv (.slice Q5) p.1.2.2.2))+(Qyv (.slice Qh) p.2.1+0):=λ_=>rfl;have J:=e p;have K:=e q;have L:=Qb7 (e:=Jl) rfl bk;have B:=λp:Ye=>Qb7 (e:=Q4) rfl p.1.1;have C:=λp:Ye=>Qb7 (e:=Q5) rfl p.1.2.2.2;have E:=λp:Ye=>Qb7 (e:=Qh) rfl p.2.1;have:=B p;have:=B q;have:=C p;have:=C q;have:=E p;have:=E q;omega
def Qqv(bk p q most):Y3 .int (Q1p bk p q most).1<=400:=by
 rw[Qax,Qcg];split
 ·cases hE:Q5w bk p most with
  |inl c=>simp
  |inr W=>
   cases hp:Q25 W q with
   |none=>simp[hp]
   |some j=>have B:=Qod (p0:=p) (w:=W) j j;have C:=Qfw hp;have E:=(Qg2 hE).2;simp only[hp,List.length_reverse];omega
 simp
theorem Qvv(w x0)(bk:List Qy0)(vs)(p:Ye)(us)(q:Ye)(most)(hm:Qyn most)(B:Rx (.slice Jl) w [x0] bk)(hp:Rx Qv w vs p)(hq:Rx Qv w us q)(DD:Lib.TabIs prog w "internal/strconv.uint64pow10" .u64 Lib.pow10Tab):
  Bv prog 3 #[x0,.agg vs.toArray,.agg us.toArray,most] w (oR w (.bool true)):=by
 obtain⟨s,v1,t,u,X,v,x,rfl⟩:=Qda (Rx.length hp);obtain⟨y,z,u2,u3,u4,u5,u6,rfl⟩:=Qda (Rx.length hq);have HB:=qh B;have HP:=qh hp;have HQ:=qh hq;have HM:=qh hm;have HT:=qh (Lib.tabBelow_of_tabIs DD);have C4:=D (bk<=maxLen) (by obtain⟨_,_,_,h1,h2,_⟩:=Q5d B;exact h2);clear B hp hq hm DD;go_enter func3,ntmps3;go_upto_region 1 with fail
 refine Qp λC C5=> ?_;have DE:=D ((C,oC w.heap.size #[s,v1,t,u,X,v,x] 31)/\(C,oC (w.heap.size+1) #[y,z,u2,u3,u4,u5,u6] 31)) (by rw[C5];exact Jt w _ _ _ _);have A7:=D (w,C) (by rw[C5];go_grown);have AU:=D (∀V,Bp C C V->Rx (.slice Jl) V [x0] bk) (λV h=>HB.o.kb (Q0 A7 h));have AV:=D (∀V,Bp C C V->Rx Qv V [s,v1,t,u,X,v,x] p) (λV h=>HP.o.kb (Q0 A7 h));have AW:=D (∀V,Bp C C V->Rx Qv V [y,z,u2,u3,u4,u5,u6] q) (λV h=>HQ.o.kb (Q0 A7 h));have DF:=D (∀V,Bp C C V->Lib.TabIs prog V "internal/strconv.uint64pow10" .u64 Lib.pow10Tab) (λV h=>(HT.o.on (Q0 A7 h)).here);have DG:=qh (Ai C C);have A3:=D (∀V,Bp C C V->(V,w.heap.size,0,s)/\(V,w.heap.size,1,v1)/\(V,w.heap.size,2,t)/\(V,w.heap.size,3,u)/\(V,w.heap.size,4,X)/\(V,w.heap.size,5,v)/\(V,w.heap.size,6,x)) (λV h=>Q0t (Qf DE.o.1 h));have A8:=D (∀V,Bp C C V->(V,w.heap.size+1,0,y)/\(V,w.heap.size+1,1,z)/\(V,w.heap.size+1,2,u2)/\(V,w.heap.size+1,3,u3)/\(V,w.heap.size+1,4,u4)/\(V,w.heap.size+1,5,u5)/\(V,w.heap.size+1,6,u6)) (λV h=>Q0t (Qf DE.o.2 h));clear C5 HB HP HQ;obtain⟨d,hd⟩:∃d,Qyv (.slice Jl) bk=d:=⟨_,rfl⟩;have HD:=qh hd;clear hd;by_cases z1:(d:Int)<=1048576;case neg=>
  have HZ:=D (¬(Qyv (.slice Jl) bk:Int)<=1048576) (by rw[HD.o];exact z1);clear z1;go_wp2_with((go_at_call 5;(with_reducible refine jR ((Qyp.no Ql2) _ x0 bk 1048576 (AU.o _ DG) (by omega) (by omega) HZ) λw1 B=> ?_);have A9:=qh (Q0 A7 B);clear B))
  go_ret;exact⟨rfl,A9.o⟩
 case pos=>
 have C6:=D ((Qyv (.slice Jl) bk:Int)<=1048576) (by rw[HD.o];exact z1);have C7:(0:Int)<=1048576-(d:Int):=by omega
 have C8:(1048576:Int)-(d:Int)<=1048576:=by omega
 go_upto_region 5 with((go_at_call 5;(with_reducible refine jR ((Qyp.yes Ql2) _ x0 bk 1048576 (AU.o _ DG) (by omega) (by omega) C6) λw1 B=> ?_);rw[HD.o];have A9:=qh B;clear B))
 obtain⟨H,M,O,P,S,T,U⟩:=A3.o _ A9;obtain⟨d2,B5⟩:∃d,Qyv Qv p=d:=⟨_,rfl⟩;have DH:=qh B5;by_cases z2:(d2:Int)<=1048576-d;case neg=>
  have HZ:=D (¬(Qyv Qv p:Int)<=1048576-d) (by rw[B5];exact z2);clear z1 z2 B5;go_wp2_with((go_at_call 6;(with_reducible refine jR ((Qyq.no Qb4) _ [s,v1,t,u,X,v,x] p (1048576-d) (AV.o _ A9) C7 C8 HZ) λw2 B=> ?_);have AA:=qh (Q0 A7 (Q0 A9 B));clear B))
  go_ret;exact⟨rfl,AA.o⟩
 case pos=>
 have BM:=D ((Qyv Qv p:Int)<=1048576-d) (by rw[B5];exact z2);have C9:(0:Int)<=1048576-(d:Int)-(d2:Int):=by omega
 have CA:(1048576:Int)-(d:Int)-(d2:Int)<=1048576:=by omega
 clear B5;go_upto_region 8 with((go_at_call 6;(with_reducible refine jR ((Qyq.yes Qb4) _ [s,v1,t,u,X,v,x] p (1048576-d) (AV.o _ A9) C7 C8 BM) λw2 B=> ?_);rw[DH.o];have AA:=qh (Q0 A9 B);clear B))
 clear H M O P S T U;obtain⟨K,Y,f,g,i,j,k⟩:=A8.o _ AA;obtain⟨d3,B6⟩:∃d,Qyv Qv q=d:=⟨_,rfl⟩;have DI:=qh B6;by_cases z3:(d3:Int)<=1048576-d-d2;case neg=>
  have HZ:=D (¬(Qyv Qv q:Int)<=1048576-d-d2) (by rw[B6];exact z3);clear z1 z2 z3 B6;go_wp2_with((go_at_call 6;(with_reducible refine jR ((Qyq.no Qb4) _ [y,z,u2,u3,u4,u5,u6] q (1048576-d-d2) (AW.o _ AA) C9 CA HZ) λw3 B=> ?_);have AX:=qh (Q0 A7 (Q0 AA B));clear B))
  go_ret;exact⟨rfl,AX.o⟩
 case pos=>
 have BN:=D ((Qyv Qv q:Int)<=1048576-d-d2) (by rw[B6];exact z3);have EH:(0:Int)<=1048576-(d:Int)-(d2:Int)-(d3:Int):=by omega
 have B7:=D (Qyv (.slice Jl) bk<=1048576) (by have:=C6.o;omega);have B8:=D (Qyv Qv p<=1048576) (by have:=BM.o;omega);have B9:=D (Qyv Qv q<=1048576) (by have:=BN.o;omega);have CB:=D (Qyv Qv p<=2000000) (by have:=BM.o;omega);have CC:=D (Qyv Qv q<=2000000) (by have:=BN.o;omega);clear B6;go_upto_region 11 with((go_at_call 6;(with_reducible refine jR ((Qyq.yes Qb4) _ [y,z,u2,u3,u4,u5,u6] q (1048576-d-d2) (AW.o _ AA) C9 CA BN) λw3 B=> ?_);rw[DI.o];have AX:=qh (Q0 AA B);clear B))
 clear K Y f g i j k z1 z2 z3 C7 C8 C9 CA EH HD DH DI C6 BM BN A9 AA;obtain⟨H,M,O,P,S,T,U⟩:=A3.o _ AX;obtain⟨K,Y,f,g,i,j,k⟩:=A8.o _ AX;have BA:=Ac w3 _ H;have BB:=Ac w3 _ K;simp only at BA BB;have CD:=D (Bp C C w3.drew) (AX.o.drew);have EI:=qh (Qnc B7 B8 B9);have EJ:=qh (Qqv bk p q most);have CE:=D (Qyo (.slice .int) (Q1p bk p q most).1 (Q1p bk p q most).1=true) (Js rfl);have EK:=D (Qyo (.slice Jl) bk bk=true) (Js rfl);have EL:=D (Qyo Qv p p=true) (Js rfl);have EM:=D (Qyo Qv q q=true) (Js rfl);go_cut [10,11] (λa b wz=>∃(pu:Option Addr) (n cu:Nat),a=A pu n cu/\b=I Z (Q1p bk p q most).2/\Hd (Rd (.slice .int) wz [A pu n cu] (Q1p bk p q most).1)/\Hd (C,wz))
 case first=>
  go_region_held3(λV=>((V,w.heap.size,0,s)/\(V,w.heap.size,1,v1)/\(V,w.heap.size,2,t)/\(V,w.heap.size,3,u)/\(V,w.heap.size,4,X)/\(V,w.heap.size,5,v)/\(V,w.heap.size,6,x))/\(V,w.heap.size+1,0,y)/\(V,w.heap.size+1,1,z)/\(V,w.heap.size+1,2,u2)/\(V,w.heap.size+1,3,u3)/\(V,w.heap.size+1,4,u4)/\(V,w.heap.size+1,5,u5)/\(V,w.heap.size+1,6,u6))
   (((refine⟨A3.o _ ?_,A8.o _ ?_⟩)<;>(with_reducible first|exact BC.o|exact AY.o|exact AB.o|exact AC.o|exact CD.o|exact AX.o)))
   (first
    |((go_at_call 7;(with_reducible refine(Qtb q4 k4 bk EN C4 CF p CG CB CH q CI CC most HM).mono ?_);rintro e J ⟨v7,rfl,hr,B⟩;obtain⟨q7,k7,rfl,-⟩:=(Ju hr).gen;have EO:=qh hr;have BC:=qh (Q0 AY B);clear hr B))
    |((go_at_call 9;(with_reducible refine(Q43 _ [y,z,u2,u3,u4,u5,u6] q (AW.o _ AB) B9).mono ?_);rintro e F ⟨CH,rfl,E,B⟩;have CI:=D (Rd Qv F CH q) (let ⟨_,o,_⟩:=E;o.rd);have CG:=D (Rd Qv F CF p) (let ⟨_,o,_⟩:=BD.o.kept B;o.rd);have EN:=D (Rd (.slice Jl) F [A q4 bk k4] bk) (let ⟨_,o,_⟩:=AG.o.kept B;o.rd);have AY:=qh (Q0 AB B);clear E B))
    |((go_at_call 9;(with_reducible refine(Q43 _ [s,v1,t,u,X,v,x] p (AV.o _ AC) B8).mono ?_);rintro e G ⟨CF,rfl,E,B⟩;have BD:=qh E;have AG:=qh (AG.o.kept B);have AB:=qh (Q0 AC B);clear E B))
    |((go_at_call 8;(with_reducible refine(Qb5 _ x0 bk (AU.o _ CD) B7).mono ?_);rintro e w4 ⟨X,rfl,E,B⟩;obtain⟨q4,k4,rfl⟩:=V6 E;have AG:=qh E;have AC:=qh (Q0 CD B);clear E B))
    |fail)
  all_goals(go_wp2;go_meet)
  all_goals exact⟨_,_,_,rfl,rfl,EO.o,BC.o⟩
 case rest=>
 rename Bh=>w3x
 obtain⟨pw,nw,cw,rfl,rfl,DJ,BO⟩:=hcut;clear H M O P S T U K Y f g i j k BA BB;have DK:=qh BO.o.size;obtain⟨H,M,O,P,S,T,U⟩:=A3.o _ BO;go_upto_region 13 with((go_at_call 8;(with_reducible refine(Qb5 _ x0 bk (AU.o _ BO) B7).mono ?_);rintro e w4 ⟨X,rfl,E,B⟩;obtain⟨q4,k4,rfl⟩:=V6 E;have AG:=qh E;have CJ:=qh B;have AC:=qh (Q0 BO B);clear E B))
 clear H M O P S T U;obtain⟨H,M,O,P,S,T,U⟩:=A3.o _ AC;go_upto_region 14 with((go_at_call 9;(with_reducible refine(Q43 _ [s,v1,t,u,X,v,x] p (AV.o _ AC) B8).mono ?_);rintro e G ⟨CF,rfl,E,B⟩;obtain⟨qa,na,ca,fa,ta,ra,qb,nb,cb,qd,nd,cd,aa,rfl⟩:=Qb1 (let ⟨_,o,_⟩:=E;o.rd);have BD:=qh E;have BP:=qh B;clear E B))
 clear H M O P S T U;refine Qp λW5 BQ=> ?_;have A0:=D (W5,oC G.heap.size #[A qa na ca,fa,ta,ra,A qb nb cb,A qd nd cd,aa] 46) (by rw[BQ];exact Bg G _);have BE:=D (G,W5) (by rw[BQ];go_grown);have CK:=D (W5.heap.size=G+1) (by rw[BQ];simp);clear BQ;have AB:=D (C,W5) (Q0 AC (Q0 BP BE));obtain⟨H,M,O,P,S,T,U⟩:=A8.o _ AB;go_upto_region 15 with((go_at_call 9;(with_reducible refine(Q43 _ [y,z,u2,u3,u4,u5,u6] q (AW.o _ AB) B9).mono ?_);rintro e F ⟨CH,rfl,E,B⟩;obtain⟨ea,AH,AI,AJ,AK,AL,eb,AM,AN,ed,AO,AP,AQ,rfl⟩:=Qb1 (let ⟨_,o,_⟩:=E;o.rd);have CL:=qh E;have BF:=qh B;clear E B))
 clear H M O P S T U;refine Qp λW6 BR=> ?_;have l:=D (W6,oC F.heap.size #[A ea AH AI,AJ,AK,AL,A eb AM AN,A ed AO AP,AQ] 46) (by rw[BR];exact Bg F _);have AZ:=D (F,W6) (by rw[BR];go_grown);have CM:=D (W6.heap.size=F+1) (by rw[BR];simp);clear BR;have AY:=D (C,W6) (Q0 AB (Q0 BF AZ));have CN:=qh (Qf (Qf A0 BF) AZ);have BS:=qh (Q0 BF AZ);have BT:=qh (Q0 (Q0 BP BE) BS);have DL:=D (Rd (.slice Jl) W6 [A q4 bk k4] bk) (let ⟨_,o,_⟩:=AG.o.kept BT;o.rd);have DM:=D (Rd Qv W6 [A qa na ca,fa,ta,ra,A qb nb cb,A qd nd cd,aa] p) (let ⟨_,o,_⟩:=BD.o.kept (Q0 BE BS);o.rd);have DN:=D (Rd Qv W6 [A ea AH AI,AJ,AK,AL,A eb AM AN,A ed AO AP,AQ] q) (let ⟨_,o,_⟩:=CL.o.kept AZ;o.rd);obtain⟨H,M,O,P,S,T,U⟩:=Q0t CN;obtain⟨K,Y,f,g,i,j,k⟩:=Q0t l.o;have DO:=qh (And.intro CJ.o.size (And.intro BP.o.size BF.o.size));go_upto_region 16 with((go_at_call 10;(with_reducible refine(Qki q4 k4 bk DL C4 _ p DM CB _ q DN CC most HM (DF.o _ AY)).mono ?_);rintro e J ⟨v7,rfl,E,B⟩;obtain⟨q7,k7,rfl⟩:=V6 E;have DP:=qh E;have A4:=qh B;clear E B))
 clear H M O P S T U K Y f g i j k;obtain⟨F0,DQ,DR,CO⟩:=AG.o;obtain⟨F1,DS,DT,CP⟩:=BD.o;obtain⟨F2,DU,DV,BU⟩:=CL.o;obtain⟨F3,DW,DX,CQ⟩:=DP.o;have DY:=qh (Q0 BS A4);have BG:=D (Ow (.slice Jl) J [A q4 bk k4] bk F0) (DQ.kept λb B=>(Q0 BT A4).block b (CO b B).2);have AD:=D (Ow Qv J [A qa na ca,fa,ta,ra,A qb nb cb,A qd nd cd,aa] p F1) (DS.kept λb B=>(Q0 BE DY).block b (CP b B).2);have A1:=D (Ow Qv J [A ea AH AI,AJ,AK,AL,A eb AM AN,A ed AO AP,AQ] q F2) (DU.kept λb B=>(Q0 AZ A4).block b (BU b B).2);have L:=qh DW;have EP:=qh DR;have EQ:=qh DT;have ER:=qh DV;have ES:=qh DX;have W:=D (w3x.heap.size<=w4/\w4.heap.size<=G/\G.heap.size<F/\F.heap.size<J/\C.heap.size<=w3x) (by have:=DO.o;have:=CK.o;have:=CM.o;have:=A4.o.size;have:=DK.o;omega);have AE:=D (∀b∈F0,w3x<=b/\b<w4.heap.size) (CO);have AR:=D (∀b∈F1,w4<=b/\b<G.heap.size) (CP);have B0:=D (∀b∈F2,G<b/\b<F.heap.size) (λb B=>⟨by have:=(BU b B).1;have:=CK.o;omega,(BU b B).2⟩);have B1:=D (∀b∈F3,F<b/\b<J.heap.size) (λb B=>⟨by have:=(CQ b B).1;have:=CM.o;omega,(CQ b B).2⟩);have A0:=qh (Qf CN A4);have l:=qh (Qf l.o A4);have BC:=D (C,J) (Q0 AY A4);have CR:=D (w3x,J) (Q0 CJ (Q0 BT A4));have CS:=D (∀V,Bp w3x w3x V->Rd (.slice .int) V [A pw nw cw] (Q1p bk p q most).1) (λV h=>DJ.o.kb h);clear DQ DR CO DS DT CP DU DV BU DW DX CQ DJ DL DM DN AG BD CL DP CJ BP BE BF AZ CN BS BT DY DO CK CM DK;go_upto_region 18 with((go_at_call 11;(with_reducible refine jR (Q54 _ _ _ _ _ L.o.rd (CS.o _ CR)) λw8 B=> ?_);rw[CE.o];have CT:=qh B;clear B))
 have DZ:=D (C,w8) (Q0 BC CT);go_upto_region 20 with(first|((go_at_call 12;(with_reducible refine jR (Qtl _ _ _ bk bk (BG.o.rd.kb E0) ET) λw9 B=> ?_);rw[EK.o];have BV:=qh (Q0 E0 B);have BW:=qh (Q0 EU B);clear B))|((go_at_call 8;(with_reducible refine(Qb5 _ x0 bk (AU.o _ DZ) B7).mono ?_);rintro e wx ⟨vx,rfl,E,B⟩;obtain⟨qx,kx,rfl⟩:=V6 E;have ET:=D (Rd (.slice Jl) wx [A qx bk kx] bk) (let ⟨_,o,_⟩:=E;o.rd);have E0:=qh (Q0 CT B);have EU:=qh (Q0 DZ B);clear E B))|fail)
 obtain⟨H,M,O,P,S,T,U⟩:=A3.o _ BW;obtain⟨K,Y,f,g,i,j,k⟩:=Q0t (Qf A0 BV);have BH:=Ac w9 _ H;have BI:=Ac w9 _ K;simp only at BH BI;have BJ:=D (∀V,Bp C C V->Bp J J V->((V,w.heap.size,0,s)/\(V,w.heap.size,1,v1)/\(V,w.heap.size,2,t)/\(V,w.heap.size,3,u)/\(V,w.heap.size,4,X)/\(V,w.heap.size,5,v)/\(V,w.heap.size,6,x))/\(V,G.heap.size,0,A qa na ca)/\(V,G.heap.size,1,fa)/\(V,G.heap.size,2,ta)/\(V,G.heap.size,3,ra)/\(V,G.heap.size,4,A qb nb cb)/\(V,G.heap.size,5,A qd nd cd)/\(V,G.heap.size,6,aa)) (λV h1 h2=>⟨A3.o V h1,Q0t (Qf A0 h2)⟩);have A5:=D (Bp C C w9.drew) (BW.o.drew);have AS:=D (Bp J J w9.drew) (BV.o.drew);go_cut [80] (λa wz=>a=.bool false/\Hd (C,wz)/\Hd (J,wz))
 case first=>
  go_region_held3(λV=>((V,w.heap.size,0,s)/\(V,w.heap.size,1,v1)/\(V,w.heap.size,2,t)/\(V,w.heap.size,3,u)/\(V,w.heap.size,4,X)/\(V,w.heap.size,5,v)/\(V,w.heap.size,6,x))/\(V,G.heap.size,0,A qa na ca)/\(V,G.heap.size,1,fa)/\(V,G.heap.size,2,ta)/\(V,G.heap.size,3,ra)/\(V,G.heap.size,4,A qb nb cb)/\(V,G.heap.size,5,A qd nd cd)/\(V,G.heap.size,6,aa))
   (((refine BJ.o _ ?_ ?_)<;>(with_reducible first|exact A6.o|exact BK.o|exact A5.o|exact BW.o|exact r.o|exact AT.o|exact AS.o|exact BV.o)))
   (first
    |((go_at_call 13;(with_reducible refine jR (Ql1 _ [A qa na ca,fa,ta,ra,A qb nb cb,A qd nd cd,aa] BL p p (AD.o.rd.kb AT) CU) λEV B=> ?_);rw[EL.o];have A6:=qh (Q0 BK B);have r:=qh (Q0 AT B);clear B))
    |((go_at_call 9;(with_reducible refine(Q43 _ [s,v1,t,u,X,v,x] p (AV.o _ A5) B8).mono ?_);rintro e CV ⟨BL,rfl,E,B⟩;have CU:=D (Rd Qv CV BL p) (let ⟨_,o,_⟩:=E;o.rd);have BK:=qh (Q0 A5 B);have AT:=qh (Q0 AS B);clear E B))
    |fail)
  all_goals(go_wp2;go_meet)
  all_goals exact⟨rfl,A6.o,r.o⟩
 case rest=>
 clear H M O P S T U K Y f g i j k BH BI BJ A5 AS BW BV;rename Bh=>wc
 obtain⟨rfl,BX,BY⟩:=hcut;obtain⟨H,M,O,P,S,T,U⟩:=A8.o _ BX;obtain⟨K,Y,f,g,i,j,k⟩:=Q0t (Qf l.o BY);have BH:=Ac wc _ H;have BI:=Ac wc _ K;simp only at BH BI;have BJ:=D (∀V,Bp C C V->Bp J J V->((V,w.heap.size+1,0,y)/\(V,w.heap.size+1,1,z)/\(V,w.heap.size+1,2,u2)/\(V,w.heap.size+1,3,u3)/\(V,w.heap.size+1,4,u4)/\(V,w.heap.size+1,5,u5)/\(V,w.heap.size+1,6,u6))/\(V,F.heap.size,0,A ea AH AI)/\(V,F.heap.size,1,AJ)/\(V,F.heap.size,2,AK)/\(V,F.heap.size,3,AL)/\(V,F.heap.size,4,A eb AM AN)/\(V,F.heap.size,5,A ed AO AP)/\(V,F.heap.size,6,AQ)) (λV h1 h2=>⟨A8.o V h1,Q0t (Qf l.o h2)⟩);have A5:=D (Bp C C wc.drew) (BX.o.drew);have AS:=D (Bp J J wc.drew) (BY.o.drew);go_upto_region 22 with fail
 go_cut [85] (λa wz=>a=.bool false/\Hd (C,wz)/\Hd (J,wz))
 case first=>
  go_region_held3(λV=>((V,w.heap.size+1,0,y)/\(V,w.heap.size+1,1,z)/\(V,w.heap.size+1,2,u2)/\(V,w.heap.size+1,3,u3)/\(V,w.heap.size+1,4,u4)/\(V,w.heap.size+1,5,u5)/\(V,w.heap.size+1,6,u6))/\(V,F.heap.size,0,A ea AH AI)/\(V,F.heap.size,1,AJ)/\(V,F.heap.size,2,AK)/\(V,F.heap.size,3,AL)/\(V,F.heap.size,4,A eb AM AN)/\(V,F.heap.size,5,A ed AO AP)/\(V,F.heap.size,6,AQ))
   (((refine BJ.o _ ?_ ?_)<;>(with_reducible first|exact A6.o|exact BK.o|exact A5.o|exact BX.o|exact r.o|exact AT.o|exact AS.o|exact BY.o)))
   (first
    |((go_at_call 13;(with_reducible refine jR (Ql1 _ [A ea AH AI,AJ,AK,AL,A eb AM AN,A ed AO AP,AQ] BL q q (A1.o.rd.kb AT) CU) λEV B=> ?_);rw[EM.o];have A6:=qh (Q0 BK B);have r:=qh (Q0 AT B);clear B))
    |((go_at_call 9;(with_reducible refine(Q43 _ [y,z,u2,u3,u4,u5,u6] q (AW.o _ A5) B9).mono ?_);rintro e CV ⟨BL,rfl,E,B⟩;have CU:=D (Rd Qv CV BL q) (let ⟨_,o,_⟩:=E;o.rd);have BK:=qh (Q0 A5 B);have AT:=qh (Q0 AS B);clear E B))
    |fail)
  all_goals(go_wp2;go_meet)
  all_goals exact⟨rfl,A6.o,r.o⟩
 case rest=>
 clear H M O P S T U K Y f g i j k BH BI BJ A5 AS BX BY;rename Bh=>wd
 obtain⟨rfl,A6,r⟩:=hcut;have BG:=qh (BG.o.kept λb B=>r.o.block b (by have:=(AE.o b B).2;have:=W.o;omega));have AD:=qh (AD.o.kept λb B=>r.o.block b (by have:=(AR.o b B).2;have:=W.o;omega));have A1:=qh (A1.o.kept λb B=>r.o.block b (by have:=(B0.o b B).2;have:=W.o;omega));have L:=qh (L.o.kept λb B=>r.o.block b (B1.o b B).2);have A0:=qh (Qf A0 r.o);have l:=qh (Qf l.o r.o);have CW:=D (w3x,wd) (Q0 CR r.o);have HH:=D ((1:Int)+(Y3 Jl bk:Nat)<=1000000000/\(1:Int)+(Y3 Jl bk:Nat)+(Y3 Q4 p.1.1:Nat)+(Y3 Q5 p.1.2.2.2:Nat)+(Y3 Qh p.2.1:Nat)<=1000000000/\(1:Int)+(Y3 Jl bk:Nat)+(Y3 Q4 p.1.1:Nat)+(Y3 Q5 p.1.2.2.2:Nat)+(Y3 Qh p.2.1:Nat)+(Y3 Q4 q.1.1:Nat)+(Y3 Q5 q.1.2.2.2:Nat)+(Y3 Qh q.2.1:Nat)<=1000000000/\(1:Int)+(Y3 .int (Q1p bk p q most).1:Nat)<=1000000000) (by obtain⟨h1,h2,h3⟩:=EI.o;have h5:=EJ.o;omega);go_upto_region 26 with((go_at_call 14;(with_reducible refine(Qnr _ _ bk F0 1 BG EP (by omega) HH.o.1).mono ?_);rintro e E1 ⟨rfl,-,hf⟩;have AF:=qh hf;clear hf))
 have A0:=qh ((AF.o.block _ (Zl A0) (λh=>by have:=(AE.o _ h).2;have:=W.o;omega)).trans A0);have l:=qh ((AF.o.block _ (Zl l.o) (λh=>by have:=(AE.o _ h).2;have:=W.o;omega)).trans l.o);have AD:=qh (AD.o.frame AF λb B=>⟨AD.o.lt b B,λh=>by have:=(AE.o b h).2;have:=(AR.o b B).1;omega⟩);have A1:=qh (A1.o.frame AF λb B=>⟨A1.o.lt b B,λh=>by have:=(AE.o b h).2;have:=(B0.o b B).1;have:=W.o;omega⟩);have L:=qh (L.o.frame AF λb B=>⟨L.o.lt b B,λh=>by have:=(AE.o b h).2;have:=(B1.o b B).1;have:=W.o;omega⟩);have CX:=D (C,E1) (A6.o.trans (AF.o.below A6.o.size (λc m=>by have:=(AE.o c m).1;have:=W.o;omega)));have CY:=D (w3x,E1) (CW.o.trans (AF.o.below CW.o.size (λc m=>(AE.o c m).1)));obtain⟨K,Y,f,g,i,j,k⟩:=Q0t A0;go_upto_region 27 with((go_at_call 15;(with_reducible refine jR (Qej [A qa na ca,fa,ta,ra,A qb nb cb,A qd nd cd,aa] p F1 AD EQ (by omega) HH.o.2.1) λE2 hf=> ?_);have B2:=qh hf;clear hf))
 clear K Y f g i j k;have l:=qh ((B2.o.block _ (Zl l.o) (λh=>by have:=(AR.o _ h).2;have:=W.o;omega)).trans l.o);have A1:=qh (A1.o.frame B2 λb B=>⟨A1.o.lt b B,λh=>by have:=(AR.o b h).2;have:=(B0.o b B).1;omega⟩);have L:=qh (L.o.frame B2 λb B=>⟨L.o.lt b B,λh=>by have:=(AR.o b h).2;have:=(B1.o b B).1;have:=W.o;omega⟩);have CZ:=D (C,E2) (CX.o.trans (B2.o.below CX.o.size (λc m=>by have:=(AR.o c m).1;have:=W.o;omega)));have D0:=D (w3x,E2) (CY.o.trans (B2.o.below CY.o.size (λc m=>by have:=(AR.o c m).1;have:=W.o;omega)));obtain⟨K,Y,f,g,i,j,k⟩:=Q0t l.o;go_upto_region 28 with((go_at_call 15;(with_reducible refine jR (Qej [A ea AH AI,AJ,AK,AL,A eb AM AN,A ed AO AP,AQ] q F2 A1 ER (by omega) HH.o.2.2.1) λE3 hf=> ?_);have BZ:=qh hf;clear hf))
 clear K Y f g i j k;have L:=qh (L.o.frame BZ λb B=>⟨L.o.lt b B,λh=>by have:=(B0.o b h).2;have:=(B1.o b B).1;omega⟩);have E4:=D (C,E3) (CZ.o.trans (BZ.o.below CZ.o.size (λc m=>by have:=(B0.o c m).1;have:=W.o;omega)));have D1:=D (w3x,E3) (D0.o.trans (BZ.o.below D0.o.size (λc m=>by have:=(B0.o c m).1;have:=W.o;omega)));clear BG AD A1 A6 CX CZ CW CY D0 A0 l AF B2 BZ AC AB AY BC r A4 CT CR;have EW:(0:Int)<=(1:Int)+(Y3 Jl bk:Nat)+(Y3 Q4 p.1.1:Nat)+(Y3 Q5 p.1.2.2.2:Nat)+(Y3 Qh p.2.1:Nat)+(Y3 Q4 q.1.1:Nat)+(Y3 Q5 q.1.2.2.2:Nat)+(Y3 Qh q.2.1:Nat):=by omega
 go_upto_region 31 with((go_at_call 11;(with_reducible refine jR (Q54 _ _ _ _ _ L.o.rd (CS.o _ D1)) λE5 B=> ?_);rw[CE.o];have C0:=qh B;clear B))
 have L:=qh (L.o.kept λb B=>C0.o.block b (L.o.lt b B));have D2:=D (C,E5) (Q0 E4 C0);have D3:=D (w3x,E5) (Q0 D1 C0);clear E4 D1 C0 EW;go_upto_region 33 with((go_at_call 16;(with_reducible refine(Q42 _ _ (Q1p bk p q most).1 F3 1 L ES (by omega) HH.o.2.2.2).mono ?_);rintro e E6 ⟨rfl,ho,hf⟩;have E7:=qh ho;have D4:=qh hf;clear ho hf))
 have E8:=D (C,E6) (D2.o.trans (D4.o.below D2.o.size (λc m=>by have:=(B1.o c m).1;have:=W.o;omega)));have E9:=D (w3x,E6) (D3.o.trans (D4.o.below D3.o.size (λc m=>by have:=(B1.o c m).1;have:=W.o;omega)));have D5:=qh E7.o.rd;clear L D2 D3 D4 E7;have FD:(0:Int)<=(1:Int)+(Y3 .int (Q1p bk p q most).1:Nat):=by omega
 go_upto_region 38 with((go_at_call 17;(with_reducible refine jR (Q9z _ _ (Q1p bk p q most).1 1 D5 (by omega) HH.o.2.2.2) λA2 B=> ?_);have C1:=qh B;clear B))
 have EA:=qh (D5.o.kb C1);have B3:=D (C,A2) (Q0 E8 C1);have EB:=D (w3x,A2) (Q0 E9 C1);have C2:=D (Bp C C A2.drew) (B3.o.drew);have EC:=D (Bp A2 A2 A2.drew) ((Ai _ _).drew);clear E8 E9 D5 C1;obtain⟨H,M,O,P,S,T,U⟩:=A3.o _ B3;obtain⟨K,Y,f,g,i,j,k⟩:=A8.o _ B3;have BA:=Ac A2 _ H;have BB:=Ac A2 _ K;simp only at BA BB;go_cut [20,21] (λa b wz=>∃(pu:Option Addr) (n cu:Nat),a=A pu n cu/\b=I Z (Q1p bk p q most).2/\Hd (Rd (.slice .int) wz [A pu n cu] (Q1p bk p q most).1)/\Hd (A2,wz))
 case first=>
  go_region_held3(λV=>((V,w.heap.size,0,s)/\(V,w.heap.size,1,v1)/\(V,w.heap.size,2,t)/\(V,w.heap.size,3,u)/\(V,w.heap.size,4,X)/\(V,w.heap.size,5,v)/\(V,w.heap.size,6,x))/\(V,w.heap.size+1,0,y)/\(V,w.heap.size+1,1,z)/\(V,w.heap.size+1,2,u2)/\(V,w.heap.size+1,3,u3)/\(V,w.heap.size+1,4,u4)/\(V,w.heap.size+1,5,u5)/\(V,w.heap.size+1,6,u6))
   (((refine⟨A3.o _ ?_,A8.o _ ?_⟩)<;>(with_reducible first|exact D6.o|exact D7.o|exact D8.o|exact D9.o|exact C2.o|exact B3.o)))
   (first
    |((go_at_call 10;(with_reducible refine(Qki ED EE bk EX C4 EF p CG CB EG q CI CC most HM (DF.o _ D7)).mono ?_);rintro e C3 ⟨FE,rfl,E,B⟩;obtain⟨EY,EZ,rfl⟩:=V6 E;have DA:=D (Rd (.slice .int) C3 [A EY (Q1p bk p q most).1.length EZ] (Q1p bk p q most).1) (let ⟨_,o,_⟩:=E;o.rd);have D6:=qh (Q0 D7 B);have B4:=qh (Q0 F4 B);clear E B))
    |((go_at_call 9;(with_reducible refine(Q43 _ [y,z,u2,u3,u4,u5,u6] q (AW.o _ D8) B9).mono ?_);rintro e DB ⟨EG,rfl,E,B⟩;have CI:=D (Rd Qv DB EG q) (let ⟨_,o,_⟩:=E;o.rd);have CG:=D (Rd Qv DB EF p) (let ⟨_,o,_⟩:=F5.o.kept B;o.rd);have EX:=D (Rd (.slice Jl) DB [A ED bk EE] bk) (let ⟨_,o,_⟩:=DC.o.kept B;o.rd);have D7:=qh (Q0 D8 B);have F4:=qh (Q0 F6 B);clear E B))
    |((go_at_call 9;(with_reducible refine(Q43 _ [s,v1,t,u,X,v,x] p (AV.o _ D9) B8).mono ?_);rintro e FF ⟨EF,rfl,E,B⟩;have F5:=qh E;have DC:=qh (DC.o.kept B);have D8:=qh (Q0 D9 B);have F6:=qh (Q0 F7 B);clear E B))
    |((go_at_call 8;(with_reducible refine(Qb5 _ x0 bk (AU.o _ C2) B7).mono ?_);rintro e FG ⟨FH,rfl,E,B⟩;obtain⟨ED,EE,rfl⟩:=V6 E;have DC:=qh E;have D9:=qh (Q0 C2 B);have F7:=qh (Q0 EC B);clear E B))
    |fail)
  all_goals(go_wp2;go_meet)
  all_goals exact⟨_,_,_,rfl,rfl,DA.o,B4.o⟩
 case rest=>
 rename Bh=>C3
 obtain⟨ph,nh,ch,rfl,rfl,F8,B4⟩:=hcut;clear H M O P S T U K Y f g i j k BA BB C2 EC;have DA:=qh (EA.o.kb B4);have D6:=D (C,C3) (Q0 B3 B4);have F9:=D (w3x,C3) (Q0 EB B4);clear EA B3 EB B4;go_wp2_with(first|((go_at_call 17;(with_reducible refine jR (Q9z _ _ (Q1p bk p q most).1 1 FA (by omega) HH.o.2.2.2) λFI B=> ?_);have FB:=qh (Q0 FC B);clear B))|((go_at_call 11;(with_reducible refine jR (Q54 _ _ _ _ _ F8 (CS.o _ F9)) λFJ B=> ?_);rw[CE.o];have FC:=qh (Q0 D6 B);have FA:=qh (DA.o.kb B);clear B))|fail)
 go_ret;exact⟨rfl,Q0 A7 FB⟩
end Go.Proofs.YtcjngpfigpglfaaGreatDoor
