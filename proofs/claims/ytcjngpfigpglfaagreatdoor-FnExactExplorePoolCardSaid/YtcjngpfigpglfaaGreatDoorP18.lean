import Derived.Test.YtcjngpfigpglfaaGreatDoorP10
import Derived.Test.YtcjngpfigpglfaaGreatDoorP17
set_option maxHeartbeats 0
set_option maxRecDepth 100000
set_option linter.all false
namespace Go.Proofs.YtcjngpfigpglfaaGreatDoor
open Go.RowKit Go.Proofs.Tryz
open Go.Value renaming int->I,slice->A
open Go.IntKind renaming i64->Z
open Option renaming none->N,some->R
open OC(oC)
open OR(oR)
open JN(jN)
open Bool renaming false->Bm,true->Bn,or_eq_true->Ew
open Go renaming madeCells->Ds,info_parts->Ck,Calls->Bv,maxLen->Bu,heap_alloc_new->Bg,bodyPost_ret->Ce,wpQuiet_nil->Ek
open Go.IntKind renaming wrap_i64->Db
open Go.RowKit renaming intOf->By,Below->Bp
open Go.Value renaming agg->Dl
open Go.World renaming cell?_setCell_same->Bx
open List renaming length_take->Cf,length_append->Bo,set_cons_zero->Cv,append_nil->Cl,setIfInBounds_toArray->Cn,set_cons_succ->Cx
open Nat renaming reduceAdd->Bj,sub_self->Hm,add_zero->Cw,mul_one->Cc
def Qal:(prog.info? 153).map (λi=>(i.zero,i.size,i.bytes))=R (R (Dl #[(),(),(),jN,jN]),5,72):=by kernel_rfl
def Qfq(w)(n:Nat)(H:n<=1000000000):(Instr.makeSlice 77 (I Z 0) (n:Int)).run prog w=.ok (A (R (w,0)) 0 n) (w.alloc (.cells (Ds (Dl #[(),(),(),jN,jN]).cells (n * 5)) 153)):=by
 obtain⟨B,C,E,F,G⟩:=Ck Qal;have:=run_make (P:=prog) w 77 153 B (Dl #[(),(),(),jN,jN]) underlying77 C E Z Z (0:Int) (n:Int) (by omega) (by omega) (by rw[G];omega) (by omega);rw[F]at this;simpa using this
theorem Qh9{v:Value}(n):(Ds v.cells n).size=n:=by simp[Ds]
theorem Qn2(w vs)(n:List Qb)(h:Rd Jl w vs n)(U:n.length<=1000000)(hz:∀x∈n,(aD x).length<=100000000/\(aW x).length<=100000000):
  Bv prog 294 #[.agg vs.toArray] w (Q2w Jl w n):=by
 obtain⟨M,O,rfl,-,-,hr⟩:=Jh h;have HN:=qh hr;have HZ:=qh hz;have A9:=λW=>Qfq W n (by omega);have B2:(n:Int)<=9223372036854775807:=by omega
 clear h hr hz;go_enter func294,ntmps294;go_upto_region 2 with fail
 refine Qp λW J=> ?_;have A1:=D (w,W) (by rw[J];go_grown);have AA:=D (W.heap.size=w.heap.size+1+1+1+1) (by rw[J];simp);have AB:=D (W,oC w.heap.size #[A M n O] 79) (by rw[J];exact Z3 (Z3 (Jt w _ _ _ _).1));have AC:=D (W,oC (w.heap.size+1) #[jN] 79) (by rw[J];exact Z3 (Z3 (Jt w _ _ _ _).2));obtain⟨cur,A2,hg,hx⟩:∃cur:Array Value,cur.size=n * 5/\(W,oC (w.heap.size+1+1) cur 153)/\(W,oC (w.heap.size+1+1+1) #[A (R (w.heap.size+1+1,0)) 0 n.length] 79):=by have P:=Jt ((w.alloc (.cells #[A M n O] 79)).alloc (.cells #[jN] 79)) (Ds (Dl #[(),(),(),jN,jN]).cells (n.length * 5)) #[A (R (w.heap.size+1+1,0)) 0 n.length] 153 79;simp only[World.size_alloc]at P;rw[J];exact⟨_,Qh9 _,P.1,P.2⟩
 have AD:=qh hx;have HG:=D (Q91 (.slice Q4) (λb=>w.heap.size+1+1<=b/\b≠w.heap.size+1+1+1) W [A (R (w.heap.size+1+1,0)) 0 n.length] []) (Q91.room hg (by rw[A2];exact Aj _) (by unfold Bu;omega) ⟨by omega,by omega⟩);have r:W.cell? (w.heap.size,0)=R (A M n O):=Q6 AB rfl;clear J hg hx A2 A9;obtain⟨ia,AE,AF,AG,AH⟩:=Ck Qal;have B3:=D (Rd (.slice Q4) W [A M n O] n) (HN.o.kb A1);have B4:w.heap.size+1+1+1<W.heap.size:=by have:=AA.o;omega
 go_wp2
 go_loopw [14] (λi wr=>∃(j m:Nat) (q:Option Addr) (B:Nat),j<=n/\i=I Z j/\Hd (wr,oC (w.heap.size+1+1+1) #[A q m B] 79)/\Hd (Q91 (.slice Q4) (λb=>w.heap.size+1+1<=b/\b≠w.heap.size+1+1+1) wr [A q m B] (n.take j))/\Hd (Q1 (λc=>w.heap.size+1+1<=c) W wr)) (λi _=>n.length-(By i).toNat);case atStart=>exact⟨0,0,_,_,Ak _,rfl,AD.o,HG.o,Q1.refl _ _⟩
 obtain⟨j,m,q,B,hj,rfl,A3,V,S⟩:=hrel;have B5:=S.o.size;have A4:=D (w,wr) (A1.o.trans (S.o.below (by omega) (λc T=>by omega)));have r:wr.cell? (w.heap.size,0)=R (A M n O):=(S.o.cell (b:=w.heap.size) (by omega) (by omega) 0).trans r;have x0:wr.cell? (w.heap.size+1+1+1,0)=R (A q m B):=Q6 A3 rfl;by_cases s:j<n
 ·obtain⟨b1,o1,rfl,Y⟩:=Rd.elem (HN.o.kb A4) j s
  have AI:=qh (HZ.o n[j] (As s));have A5:=D (n.take (j+1)=n.take j++ [n[j]]) (An s);have AJ:=qh Y;generalize n[j]=x at *
  obtain⟨k,l,v,d,ws⟩:=x;simp only[Ty.sz,Bj]at Y;obtain⟨t,u,z,cw,⟨c0,c1,c2,c3,c4⟩,E,⟨-,-,hd⟩,⟨-,-,hw⟩⟩:=Y.agent;have AK:=D (∀W',Bp wr.heap.size wr W'->Rd Q4 W' [k,l,v,A t d u,A z ws cw] (k,l,v,d,ws)) (λW' G=>Q6l E.1 E.2.1 E.2.2 (hd.kb G) (hw.kb G));clear Y hd hw E AJ;obtain⟨L,hL⟩:∃L:List Qb,L=n.take j:=⟨_,rfl⟩;rw[<-hL]at V A5;have AL:=D (L.length+1<=1000000000) (by rw[hL,Cf];omega);obtain⟨m',AM,AN⟩:∃m',m'=m/\m'=L.length:=by obtain⟨p9,c9,h9,_⟩:=(let ⟨F,o,_⟩:=V.o;o.gen:∃(p:Option Addr) (AO:Nat),A q m B=A p L AO/\_);simp only[Value.slice.injEq]at h9;exact⟨m,rfl,h9.2.1⟩
  subst AM;subst AN;clear hL;have B6:(j:Int)<n:=by omega
  have B7:(0:Int)<=j:=by omega
  have B8:w.heap.size+1+1+1<wr.heap.size:=by omega
  go_upto_region 5 with fail
  refine Qp λC a=> ?_;have K:=D (wr,C) (by rw[a];go_grown);have B9:C.heap.size=wr.heap.size+1:=by rw[a];simp
  obtain⟨g0,g1,g2,g3,g4⟩:=Q11 wr k l v (A t d u) (A z ws cw) 153;rw[<-a]at g0 g1 g2 g3 g4;have x1:=jC K x0;have AP:w.heap.size+1+1+1<C.heap.size:=by omega
  clear a c0 c1 c2 c3 c4 r x0;have A6:=D (Bp C.heap.size C C.drew) ((Ai _ _).drew);have AQ:=D (∀b,wr.heap.size<=b->(w.heap.size+1+1<=b/\b≠w.heap.size+1+1+1)) (λb G=>by omega);have AR:=D (wr.heap.size<=C.drew.heap.size) (by have:=A6.o.size;omega)
  go_region_law
   (first
    |((refine Qap _ rfl (.tmp 19) (.tmp 22) 77 rfl (e:=Q4) 153 ia _ 72 underlying77 AE AF AG AH rfl (by decide) wr (v:=A q L B) (xs:=L) (y:=(k,l,v,d,ws)) (vs:=[k,l,v,A AS d AT,A AU ws AV]) w2.heap.size 1 rfl rfl V AQ ((Q0 K H).alloc A7 _) (AW.o.kept (Ai _ _|>.alloc (Aj _) _)) (Q1n (Q6 (Bg w2 _) rfl) (Q6 (Bg w2 _) rfl) (Q6 (Bg w2 _) rfl) (Q6 (Bg w2 _) rfl) (Q6 (Bg w2 _) rfl)) Qwp AL ?_;intro p3 c3 w3 A8 f;have AX:=qh A8;have BA:=qh ((AY.o.alloc _).trans (f.mono λc T=>T.2));have A0:=D (w3,oC (w.heap.size+1+1+1) #[A q L B] 79) ((f.block _ (by rw[Be];omega) (λP=>P.1.2 rfl)).trans (Z3 (Qf (Qf A3 K) H)));have x3:w3.cell? (w.heap.size+1+1+1,0)=R (A q L B):=Q6 A0 rfl;have BB:w3.frozen? (w.heap.size+1+1+1,0)=Bm:=Q0u.free ⟨_,A0.o⟩ 0;have AZ:=qh ((Ay (X:=λc=>w.heap.size+1+1<=c) ((Q0 K H).alloc A7 _)).trans (f.mono λc T=>T.1.1));clear A8 f))
    |((go_simp;go_at_call 300;(with_reducible refine(Qgr [k,l,v,A t d u,A z ws cw] (k,l,v,d,ws) (AK.o _ (K.o.drew)) AI).mono ?_);rintro e w2 ⟨vs,rfl,U,G⟩;obtain⟨AS,AT,AU,AV,rfl⟩:=U.agentShape;have AW:=qh (U.lo AR);have H:=qh (Q0 A6 G);have AY:=D (Q1 (λc=>c<wr.heap.size) C w2) (Ay H);have A7:=D (wr.heap.size<=w2.heap.size) (Au K.o.size H.o.size);have x2:=jC H x1;have BC:w.heap.size+1+1+1<w2.heap.size:=Ap AP H.o.size;clear U G;dsimp only))
    |fail)
  all_goals
   go_wp2
   go_roundw;case rel=>exact⟨j+1,L.length+1,p3,c3,by omega,by go_num,(show _=_ from by rw[Z1 A0.o];simp),(show Q91 _ _ _ _ _ by rw[A5.o];exact AX.o.frame (X:=λc=>c=w.heap.size+1+1+1) (Q23 (Q1.refl _ _)) (λi E hp=>hp.2 E)),(show Q1 _ _ _ from(S.o.trans AZ).setCell (show w.heap.size+1+1<=w.heap.size+1+1+1 by omega) _)⟩
   simp[By];omega
 have B0:n<=j:=by omega
 have B1:=D (n.take j=n) (Ao B0);have g:wr.heap[w.heap.size+1]?=R (.cells #[jN] 79):=(S.o.block _ (by omega) (by omega)).trans AC;have BD:=qh g;have r0:wr.cell? (w.heap.size+1,0)=R (A N 0 0):=Q6 g rfl;have rf:wr.frozen? (w.heap.size+1,0)=Bm:=Q0u.free ⟨_,g⟩ 0;clear g;go_wp2_with fail
 have s0:=Bx wr (w.heap.size+1,0) (A q m B) r0;have hF:=Q23 (o:=0) (v:=A q m B) (Q1.refl (λc=>c=w.heap.size+1) wr);refine Ce (v:=.agg #[A q m B]) (by simp[results,results294,go_sem,s0]) rfl ?_;refine⟨[_],rfl, ?_,A4.o.trans (hF.below (by omega) (λc T=>by omega))⟩;have hN:=V.o;rw[B1.o]at hN;exact(hN.frame hF (λi E hp=>by omega)).new (λb G=>by omega)
def Qc1(l:Int)(x:Qb):Qb:=(aK x,(if Zf (aK x)then aL x+l else aL x),aV x,aD x,aW x)
theorem Qqi{l x}(h:Zf (aK x)=Bm):Qc1 l x=x:=by unfold Qc1;rw[h];rfl
def Q1j(n:Qy0)(l:Int)(j:Nat):Qy0:=(J8 n l).take j++n.drop j
theorem Qi1(n l):Q1j n l 0=n:=by simp[Q1j]
theorem Qiu{n:Qy0}{l}{j:Nat}(h:j<=n):(Q1j n l j).length=n:=by
 unfold Q1j;rw[Bo,Cf,List.length_drop,J3];omega
theorem Qjs{n l j}(h C):(Q1j n l j)[j]=n[j]:=by
 have B:((J8 n l).take j)=j:=by rw[Cf,J3];omega
 have:(Q1j n l j)[j]?=R n[j]:=by unfold Q1j;rw[List.getElem?_append_right (by omega),B,Hm,List.getElem?_drop,Cw,Ad h]
 exact(List.getElem?_eq_some_iff.1 this).2
def Qi4{n l j}(h):Q1j n l (j+1)=(Q1j n l j).set j (Qc1 l n[j]):=by
 have B:((J8 n l).take j)=j:=by rw[Cf,J3];omega
 have C:(J8 n l)[j]'(by rw[J3];exact h)=Qc1 l n[j]:=by unfold J8 Qc1;rw[List.getElem_map]
 unfold Q1j;rw[An (by rw[J3];exact h),C,List.set_append_right _ _ (by omega),B,Hm,List.drop_eq_getElem_cons h,Cv,List.append_assoc];rfl
def Qi8{n:Qy0}{l}{j:Nat}(h:n<=j):Q1j n l j=J8 n l:=by
 unfold Q1j;rw[Ao (by rw[J3];exact h),List.drop_of_length_le h,Cl]
def Qxr(l:Int)(x:Qb):Bool:= !(Zf (aK x))||decide (aL x+l<=8)
def Q05(n:Qy0)(l:Int):Bool:=n.all (Qxr l)
theorem Q3m(w vs)(n:List Qb)(l)(h:Rd Jl w vs n)(hn:n.length<=1000000)(hz:∀x∈n,(aD x).length<=100000000/\(aW x).length<=100000000)(A6:∀x∈n,Zf (aK x)=Bn-> -1000<=aL x/\aL x<=1000)(hl: -1000<=l/\l<=1000):
  Bv prog 272 #[.agg vs.toArray,I Z l] w λe w'=>∃(p:Option Addr) (m c:Nat),e=.returned (.tuple #[.agg #[A p m c],.bool (Q05 n l)])/\(Q05 n l=Bn->Qy7 Jl w w' [A p m c] (J8 n l))/\(w,w'):=by
 obtain⟨pn,cn,rfl,-,-,hr⟩:=Jh h;have HN:=qh hr;have HZ:=qh hz;have AO:=qh A6;have B2:(n:Int)<=9223372036854775807:=by omega
 clear h hr hz A6;go_enter func272,ntmps272;go_upto_region 1 with fail
 refine Qp λW X=> ?_;have A7:=D (w,W) (by rw[X];go_grown);have Y:=Jt w #[A pn n cn] #[jN] 79 79;rw[<-X]at Y;have AP:=qh Y.2;have a0:W.cell? ⟨w,0,N⟩=R (A pn n cn):=Q6 Y.1 rfl;have hs:W.heap.size=w+1+1:=by rw[X];simp
 clear X Y;go_upto_region 2 with((go_at_call 294;(with_reducible refine(Qn2 W [A pn n cn] n (HN.o.kb A7) hn HZ).mono ?_);rintro e w1 ⟨us,rfl,a,O⟩;obtain⟨u,rfl⟩:=Qgp (let ⟨F,o,_⟩:=a;o.length);obtain⟨E,C,rfl⟩:=V6 a;have AQ:=qh a;have A3:=qh O;clear a O))
 refine Qp λH f=> ?_;have A4:=D (w1,H) (by rw[f];go_grown);have A8:=D (H.heap[w1.heap.size]?=R (.cells #[A E n C] 79 (0,0))) (by rw[f];exact Bg w1 _);have B3:=A3.o.size;have B4:H.heap.size=w1+1:=by rw[f];simp
 obtain⟨F,J,A9,K⟩:=AQ.o;have HO:=D (Ow (.slice Q4) H [A E n C] n F) (J.kept λb O=>A4.o.block b (K b O).2);have AA:=qh A9;have AR:=qh K;have g:=D (w,H) (Q0 (Q0 A7 A3) A4);have AS:=D (H.heap[w.heap.size+1]?=R (.cells #[jN] 79 (0,0))) (Qf (Qf AP A3) A4);have x2:H.cell? ⟨w1,0,N⟩=R (A E n C):=Q6 A8 rfl;clear f J A9 K a0;go_wp2_with fail
 go_loopw [7,8,14] (λ_ _ i wr=>∃(j:Nat),j<=n/\i=I Z j/\Hd (Ow (.slice Q4) wr [A E n C] (Q1j n l j) F)/\Hd ((n.take j).all (Qxr l)=Bn)/\Hd (Q1 (λc=>c∈F) H wr)) (λ_ _ i _=>n.length-(By i).toNat);case atStart=>exact⟨0,Ak _,rfl,(show Ow _ _ _ _ _ by rw[Qi1];exact HO.o),rfl,Q1.refl _ _⟩
 obtain⟨j,hj,rfl,AB,A5,P⟩:=hrel;have B5:=P.o.size;have L:=D (∀b∈F,w.heap.size+1<b/\b<w1.heap.size) (λb O=>by have:=AR.o b O;omega);have AC:wr.heap[w1.heap.size]?=R (.cells #[A E n C] 79 (0,0)):=(P.o.block _ (by omega) (λhm=>by have:=L.o _ hm;omega)).trans A8;have x0:wr.cell? ⟨w1,0,N⟩=R (A E n C):=Q6 AC rfl;have s:wr.heap[w.heap.size+1]?=R (.cells #[jN] 79 (0,0)):=(P.o.block _ (by omega) (λhm=>by have:=L.o _ hm;omega)).trans AS;have r0:wr.cell? ⟨w+1,0,N⟩=R (A N 0 0):=Q6 s rfl;have rf:wr.frozen? ⟨w+1,0,N⟩=Bm:=Q0u.free ⟨_,s⟩ 0;have AD:=Zl s;have AT:=D (w,wr) (g.o.trans (P.o.below (by have:=g.o.size;omega) (λc B=>by have:=L.o _ B;omega)));clear AC s;by_cases S:j<n
 ·obtain⟨b,o,us,G,rfl,AE,B6,AF,hG,t,AU,y,AG,z,A0⟩:=Ow.focus AB AA j (by rw[Qiu hj];exact S)
  rw[Qjs S]at z;have AH:=qh (Qi4 (l:=l) S);have AV:=qh (AO.o n[j] (As S));have AI:=D ((n.take (j+1)).all (Qxr l)=((n.take j).all (Qxr l) && Qxr l n[j])) (by rw[An S,List.all_append];simp);have AW:=D (Qxr l n[j]=Bm->Q05 n l=Bm) (λh=>by unfold Q05;rw[List.all_eq_false];exact⟨n[j],As S,by rw[h];simp⟩);generalize n[j]=x at *
  have AX:=qh (A0 wr _ _ (Q1.refl _ _) (Qc.refl _ _ _ _) y z);obtain⟨pd,cd,pw,cw,Gd,Gw,rfl,rfl,T,U,i1,i2,i3⟩:=z.agent;obtain⟨k,lv,v,d,ws⟩:=x;simp only[aK,aL,aV,aD,aW]at T U i1 i2 i3 y;obtain⟨u0,u1,u2,u3,u4⟩:=Q5v y;have AJ:=D (∀q:Int,Qyn q->Ow (.slice Q4) (wr.setCell ⟨b,o+j * 5+1,N⟩ (I Z q)) [A (R ⟨b,o,N⟩) n C] ((Q1j n l j).set j (k,q,v,d,ws)) F) (λq hq=>by
   have hf:=Zw wr b (o+j * 5+1) (I Z q);have k5:∀r,r≠o+j * 5+1->(wr.setCell ⟨b,o+j * 5+1,N⟩ (I Z q)).cell? ⟨b,r,N⟩=wr.cell? ⟨b,r,N⟩:=λr hr=>World.cell?_setCell_other _ _ _ _ (by intro e;simp only[Addr.mk.injEq,and_true,true_and]at e;omega);refine A0 _ [I Z k,I Z q,I Z v,A pd d cd,A pw ws cw] _ (hf.mono λ_ h=> .inl h) ((Qc.refl _ _ _ _).set _ (by simp only[Ty.sz,Bj];omega) _) ?_ ?_
   ·exact Q1n ((k5 _ (by simp only[Ty.sz,Bj];omega)).trans u0) (Bx _ _ _ u1) ((k5 _ (by simp only[Ty.sz,Bj];omega)).trans u2) ((k5 _ (by simp only[Ty.sz,Bj];omega)).trans u3) ((k5 _ (by simp only[Ty.sz,Bj];omega)).trans u4)
   exact Ow.mkAgent i1 hq i3 (T.frame hf λc B=>⟨T.lt c B,λe=>t (e▸Ag _ B)⟩) (U.frame hf λc B=>⟨U.lt c B,λe=>t (e▸Af _ B)⟩))
  have HC:=qh A0;have B7:=qh AF;have AK:=qh AE;have HD:=qh T;have B8:=qh U;have HI:=D (Qyn k/\Qyn v) (⟨i1,i3⟩);have B9:=D (∀c∈Gd++Gw,c≠b) (λc B e=>t (e▸B));have BA:=AG (o+j * 5+1);simp only[Ty.sz,Bj]at u0 u1;clear A0 AF AE hG t AU y AG z T U i1 i2 i3 u2 u3 u4;have BB:(j:Int)<n:=by omega
  have BC:(0:Int)<=j:=by omega
  cases hk:Zf k
  ·have V:=qh hk
   clear hk;go_wp2_with((go_at_call 229;(with_reducible refine jX (Q5o k) ?_);rw[V.o]))
   go_roundw;case rel=>exact⟨j+1,by omega,by go_num,(show Ow _ _ _ _ _ by rw[AH.o,Qqi (x:=(k,lv,v,d,ws)) V.o];exact AX.o),(show _=_ by rw[AI.o,A5.o,show Qxr l (k,lv,v,d,ws)=Bn by unfold Qxr;rw[show Zf (aK (k,lv,v,d,ws))=Bm from V.o];rfl];rfl),P.o⟩
   simp[By];omega
  have V:=qh hk;obtain⟨v1,v2⟩:=AV.o hk;simp only[aL]at v1 v2;have BD:IntKind.i64.wrap (lv+l)=lv+l:=by simp only[Db];omega
  have AL:=D (Qxr l (k,lv,v,d,ws)=decide (lv+l<=8)) (by unfold Qxr;rw[show Zf (aK (k,lv,v,d,ws))=Bn from hk];rfl);have AY:=D (Qc1 l (k,lv,v,d,ws)=(k,lv+l,v,d,ws)) (by unfold Qc1;rw[show Zf (aK (k,lv,v,d,ws))=Bn from hk];rfl);clear hk;go_upto_region 8 with((go_at_call 229;(with_reducible refine jX (Q5o k) ?_);rw[V.o]))
  refine Qp λM A1=> ?_;have BE:w.heap.size+1<b/\b<w1.heap.size:=L.o b AK;have A2:Q1 (λc=>c=b) wr M:=by rw[A1];exact Zw _ _ _ _
  have u5:M.cell? ⟨b,o+j * 5+1,N⟩=R (I Z (lv+l)):=by rw[A1];exact Bx _ _ _ u1
  have r5:M.cell? ⟨w+1,0,N⟩=R (A N 0 0):=(A2.cell AD (by omega) 0).trans r0;have BF:M.frozen? ⟨w+1,0,N⟩=Bm:=(A2.frozen AD (by omega) 0).trans rf;have AZ:=D (Ow (.slice Q4) M [A (R ⟨b,o,N⟩) n C] (Q1j n l (j+1)) F) (by rw[A1,AH.o,AY.o];exact AJ.o _ (by unfold Qyn;omega));have AM:=D (Q1 (λc=>c∈F) H M) (P.o.trans (A2.mono λc B=>by have h:c=b:=B;rw[h];exact AK.o));clear A2 A1 u0 u1 r0 rf x0 HC AJ;by_cases q8:8<lv+l
  ·have HF:=qh (AW.o (by rw[AL.o];simp;omega))
   go_wp2_with fail
   have s0:=Bx M ⟨w+1,0,N⟩ (A N 0 0) r5;refine Ce (v:=.tuple #[.agg #[jN],.bool Bm]) (by simp[results,results272,go_sem,s0]) rfl ?_;refine⟨N,0,0,by rw[HF.o],λh=>(by rw[HF.o]at h;cases h), ?_⟩;exact(g.o.trans (AM.o.below (by have:=g.o.size;omega) (λc B=>by have:=L.o _ B;omega))).setCell (p:=⟨w+1,0,N⟩) (by simp only;omega) _
  go_wp2_with fail
  go_roundw;case rel=>exact⟨j+1,by omega,by go_num,AZ.o,(show _=_ by rw[AI.o,A5.o,AL.o];simp;omega),AM.o⟩
  simp[By];omega
 have AN:n<=j:=by omega
 have B0:=qh (Qi8 (l:=l) AN);have B1:=D (Q05 n l=Bn) (by have:=A5.o;rw[Ao AN]at this;exact this);go_wp2_with fail
 have s0:=Bx wr ⟨w+1,0,N⟩ (A E n C) r0;have K:=Q23 (o:=0) (v:=A E n C) (Q1.refl (λc=>c=w.heap.size+1) wr);refine Ce (v:=.tuple #[.agg #[A E n C],.bool Bn]) (by simp[results,results272,go_sem,s0]) rfl ?_;refine⟨E,n.length,C,by rw[B1.o],λ_=> ?_,AT.o.trans (K.below (by omega) (λc B=>by omega))⟩;have J:=AB.o;rw[B0.o]at J;exact⟨F,J.frame K (λc B=>⟨J.lt c B,λe=>by have:=L.o c B;omega⟩),AA.o,λc B=>⟨by have:=L.o c B;omega,Ap (J.lt c B) K.size⟩⟩
def Q4h(n:List Qb)(p:Wd):Bool:=Vm p (Qe n p) && (decide (0<p.2) && decide (0<(Qe n p).2))
def Q77(n:List Qb)(l:List Wd):List Qy3:=(l.filter (Q4h n)).map λp=>(p,Qe n p)
theorem Qnw(n):Q77 n (Qk n)=Zg n:=by
 unfold Q77 Zg Yw;rw[List.filter_map,List.filter_filter];congr 1
 apply List.filter_congr;intro p _;simp[Q4h,Function.comp,Bool.and_comm,Bool.and_left_comm]
theorem Qji(n){l:List Wd}{j:Nat}(h):Q77 n (l.take (j+1))=Q77 n (l.take j)++(if Q4h n l[j]then [(l[j],Qe n l[j])]else []):=by
 unfold Q77;rw[An h,List.filter_append,List.map_append];congr 1
 cases hh:Q4h n l[j]<;>simp[hh]
def Qmr(n)(l:List Wd)(j):(Q77 n (l.take j)).length<=l:=by
 unfold Q77;rw[List.length_map];refine Au (List.length_filter_le _ _) ?_;rw[Cf];omega
theorem Qlb{w}(b o)(n:List Qb)(h:At Jl w b o n)(g:Yd n=Bn):
  Bv prog 270 #[(b,o)] w λe w'=>∃v,e=.returned v/\Qxu Z7 313 w w' v (Zg n)/\(w,w'):=by
 obtain⟨⟨AT,AU⟩,-,-,k⟩:=Yl g;have HV:=qh g;have HA:=qh h;have AC:=k.2.1;have AV:=qh k;clear h g k;obtain⟨i0,AD,AE,AF,AG⟩:=Ck Qea;go_enter func270,ntmps270;go_upto_region 3 with((go_at_call 205;(with_reducible refine(Qfn _ _ n HA (by omega) AC).mono ?_);rintro e w1 ⟨v1,rfl,l,C⟩;obtain⟨pv,cv,rfl,AW,AX⟩:=l.form;have AH:=qh l;have m:=qh C;clear l C))
 have AI:=D (Rd (.slice Q5) w1 [A pv (Qk n) cv] (Qk n)) (AH.o.rd rfl);generalize hL:Qk n=L at *
 have A4:=qh hL;have A5:=m.o.size;have A6:=qh (Qxu.nil (t:=Z7) (e:=313) (B:=w1) (w:=w1));clear hL;have AJ:=D (∀p∈L,((0<=p.1/\p.1<n)/\0<=p.2/\p.2<(aW (Q7 n p.1)))) (λp hp=>Yn.1 (A4.o▸hp));go_loopw [3,10] (λu i wr=>∃(j:Nat),j<=L/\i=I Z j/\Hd (Qxu Z7 313 w1 wr u (Q77 n (L.take j)))/\Hd (w1,wr)) (λ_ i _=>L.length-(By i).toNat);case atStart=>exact⟨0,Ak _,rfl,A6.o,Ai _ _⟩
 obtain⟨j,hj,rfl,J,F⟩:=hrel;clear A6;have AY:=F.o.size;obtain⟨M,T⟩:∃M:List Qy3,Q77 n (L.take j)=M:=⟨_,rfl⟩;rw[T]at J;have HI:=qh T;obtain⟨pu,cu,rfl,-,-⟩:=J.o.form;by_cases r:j<L
 ·obtain⟨b1,o1,rfl,hE⟩:=Rd.elem (AI.o.kb F) j r
  have U:=qh (AJ.o L[j] (As r));have W:=D (Q77 n (L.take (j+1))=M++(if Q4h n L[j]then [(L[j],Qe n L[j])]else [])) (by rw[Qji n r,T]);have AK:=D (M.length<=L) (by rw[<-T];exact Qmr n L j);generalize L[j]=p at *
  obtain⟨a,s⟩:=p;obtain⟨e0,e1,AL,AM⟩:=At.word (t:=a) (a:=s) hE;simp only[Ty.sz,Bj]at e0 e1;clear hE;clear T;have AZ:(j:Int)<L:=by omega
  have B0:(0:Int)<=j:=by omega
  go_upto_region 5 with fail
  refine Qp λX x=> ?_;have A7:=D (wr,X) (by rw[x];go_grown);have y:X.heap[wr.heap.size]?=R (.cells #[a,s] 207):=by rw[x];exact Bg wr _
  have B1:=qh y;obtain⟨⟨G,H⟩,-⟩:=Zj y;have AN:=D (At Jl X b o n) (HA.o.kb (Q0 (Q0 m.o (F.o.mono (Aj _))) A7));clear x y e0 e1;obtain⟨q,Y⟩:∃q,Qe n (a,s)=q:=⟨_,rfl⟩;have HQ:=qh Y;obtain⟨q0,q1⟩:=q;have c:=D (Q4h n (a,s)=(Vm (a,s) (q0,q1) && (decide (0<s) && decide (0<q1)))) (by unfold Q4h;rw[Y]);have A8:=D (Qyn q0/\Qyn q1) (by obtain⟨p1,-,-⟩:=J1 HV (p:=(a,s)) (Yn.2 U);rw[Y]at p1;obtain⟨⟨m1,m2⟩,m3,m4⟩:=Yn.1 p1;simp only at m1 m2 m3 m4;have:=(Yl HV).2.2.1 q0.toNat;unfold Q7 at m4;unfold Qyn;omega);clear Y;go_upto_region 6 with((go_at_call 207;(with_reducible refine jR (Qce X b o n AN a s U.o.1.1 U.o.1.2 U.o.2.1 U.o.2.2) λd C=> ?_);rw[HQ.o];have AO:=qh C;clear C))
  refine Qp λW6 z=> ?_;have AP:=D (d,W6) (by rw[z];go_grown);have A0:W6.heap[d.heap.size]?=R (.cells #[q0,q1] 207):=by rw[z];exact Bg d _
  have B2:=qh A0;obtain⟨⟨O,P⟩,-⟩:=Zj A0;have A1:=qh (Q0 AO AP);have G:=jC A1 G;have H:=jC A1 H;have K:=qh (Q0 A7 A1);clear z A0;cases C:Vm (a,s) (q0,q1);case false=>
   have S:=qh C;go_wp2_with((go_at_call 292;(with_reducible refine jR (Q8c a s q0 q1) λf C=> ?_);rw[S.o];have E:=qh C;clear C))
   go_roundw;case rel=>exact⟨j+1,by omega,by go_num,(J.o.kept (Q0 K E)).eqL (by rw[W.o,c.o,S.o];simp),(show Bp _ _ _ from Q0 F (Q0 K E))⟩
   simp[By];omega
  have S:=qh C;by_cases A2:0<s
  ·by_cases A9:0<q1
   ·have V:=D (Q4h n (a,s)=Bn) (by rw[c.o,C];simp[A2,A9])
    go_upto_region 7 with((go_at_call 292;(with_reducible refine jR (Q8c a s q0 q1) λf C=> ?_);rw[S.o];have E:=qh C;clear C;have G:=jC E G;have H:=jC E H;have O:=jC E O;have P:=jC E P))
    have A3:=qh (Q0 K E);have B3:=A3.o.size;go_wp2_with(at_builtin;refine Q0w f rfl (.tmp 30) (.tmp 34) 310 rfl (t:=Z7) rfl (by decide) w1 313 i0 _ 32 underlying310 AD AE AF AG rfl (by decide) (v:=A pu M cu) (xs:=M) ((a,s),(q0,q1)) _ rfl rfl (J.o.kept A3) (Q8l AL AM A8.o.1 A8.o.2) rfl (by have:=AK.o;omega) (by omega) ?_;intro v9 w9 AA AB _;have AQ:=qh AA;have AR:=qh AB;clear AA AB)
    go_roundw;case rel=>exact⟨j+1,by omega,by go_num,AQ.o.eqL (by rw[W.o,V.o,HQ.o];rfl),(show Bp _ _ _ from(Q0 F A3).trans AR)⟩
    simp[By];omega
   have V:=D (Q4h n (a,s)=Bm) (by rw[c.o,C];simp[A2,A9]);go_wp2_with((go_at_call 292;(with_reducible refine jR (Q8c a s q0 q1) λf C=> ?_);rw[S.o];have E:=qh C;clear C;have G:=jC E G;have H:=jC E H;have O:=jC E O;have P:=jC E P))
   go_roundw;case rel=>exact⟨j+1,by omega,by go_num,(J.o.kept (Q0 K E)).eqL (by rw[W.o,V.o];simp),(show Bp _ _ _ from Q0 F (Q0 K E))⟩
   simp[By];omega
  have V:=D (Q4h n (a,s)=Bm) (by rw[c.o,C];simp[A2]);go_wp2_with((go_at_call 292;(with_reducible refine jR (Q8c a s q0 q1) λf C=> ?_);rw[S.o];have E:=qh C;clear C;have G:=jC E G;have H:=jC E H;have O:=jC E O;have P:=jC E P))
  go_roundw;case rel=>exact⟨j+1,by omega,by go_num,(J.o.kept (Q0 K E)).eqL (by rw[W.o,V.o];simp),(show Bp _ _ _ from Q0 F (Q0 K E))⟩
  simp[By];omega
 have AS:L<=j:=by omega
 go_wp2
 go_ret;refine⟨_,rfl,(J.o.lo A5).eqL ?_,m.o.trans (F.o.mono A5)⟩;rw[<-HI.o,Ao AS,<-A4.o,Qnw]
def Q5t(x y:Qb):Qb:=if(Q07 x y).2 then y else x
def Q1w(bk:List Qy0)(x y:Qb):Int×Int:=
 if(Q07 x y).1=8 then(0,11)
 else if(Q07 x y).1=7 then(if(bk:Int)<=aV (Q5t x y)then(0,3)else if Q05 (Yc bk (aV (Q5t x y))) (aL (Q5t x y))then(7,0)else(0,9))
 else((Q07 x y).1,0)
def Q6f{bk:List Qy0}{v:Int}(h:0<=v)(C:v<bk):∃B:v.toNat<bk,bk[v.toNat]=Yc bk v:=by
 have B:v.toNat<bk:=by omega
 refine⟨B, ?_⟩;unfold Yc;rw[Ab,Ad B];rfl
def Q6g{bk:List Qy0}{v:Int}(h:0<=v)(B:v<bk):Yc bk v∈bk:=by
 obtain⟨C,e⟩:=Q6f h B;rw[<-e];exact As C
def Qj8{n:Qy0}(h:Yd n=Bn):n.length<=1000000/\(∀x∈n,(aD x).length<=100000000/\(aW x).length<=100000000)/\∀x∈n,Zf (aK x)=Bn-> -1000<=aL x/\aL x<=1000:=by
 obtain⟨⟨H,-⟩,E,F,-⟩:=Yl h;refine⟨by omega,λx C=> ?_,λx C G=> ?_⟩
 ·obtain⟨i,B,rfl⟩:=Av.1 C
  have:=F i;rw[Qy B]at this;omega
 obtain⟨i,B,rfl⟩:=Av.1 C;have:=E i B;rw[Qy B]at this;have:=Q7i this G;omega
theorem Qsa(w g){x y:Qb}(h:At Jl w g 0 [x,y])(p0 c0)(bk:List Qy0)(P:w.cell? (g,1)=R (A p0 bk c0))(AH:Rd (.slice Jl) w [A p0 bk c0] bk)(AW:bk<=Bu)(AI:∀n∈bk,Yd n=Bn)(h7:(Q07 x y).1=7->0<=aV (Q5t x y)/\0<=aL (Q5t x y)/\aL (Q5t x y)<=1000):
  Bv prog 269 #[(g,0),.agg #[(),I Z 1]] w λe w'=>∃i j:Int,e=.returned (.tuple #[I Z (Q1w bk x y).1,i,j,I Z (Q1w bk x y).2])/\(w,w'):=by
 have HA:=qh h;have AX:=qh AH;have AY:=qh AI;obtain⟨pn,cn,M,-,-,hn⟩:=h.net;have M:w.cell? (g,0)=R (A pn 2 cn):=M;obtain⟨b1,o1,rfl,hX⟩:=Rd.elem hn 0 (by simp);obtain⟨b2,o2,AJ,hY⟩:=Rd.elem hn 1 (by simp);simp only[Option.some.injEq,Addr.mk.injEq,and_true]at AJ;obtain⟨rfl,rfl⟩:=AJ;simp only[List.getElem_cons_zero,List.getElem_cons_succ,Ty.sz,Bj,Nat.reduceMul,Nat.zero_mul,Nat.one_mul,Cw]at hX hY;obtain⟨r,hr⟩:∃r,Q07 x y=r:=⟨_,rfl⟩;have HR:=qh hr
 have HV:=qh (show Q1w bk x y=if r.1=8 then(0,11)
  else if r.1=7 then(if(bk:Int)<=aV (if r.2 then y else x)then(0,3)else if Q05 (Yc bk (aV (if r.2 then y else x))) (aL (if r.2 then y else x))then(7,0)else(0,9))
  else(r.1,0)by unfold Q1w Q5t;rw[hr])
 have H7:=D (r.1=7->0<=aV (if r.2 then y else x)/\0<=aL (if r.2 then y else x)/\aL (if r.2 then y else x)<=1000) (by unfold Q5t at h7;rw[hr]at h7;exact h7);obtain⟨c,s⟩:=r;obtain⟨k,l,v,d,ws⟩:=x;obtain⟨F,l',E,d',G⟩:=y;obtain⟨pd,cd,pw,cw,⟨X,Y,a,b,f⟩,-,-,-⟩:=hX.agent;obtain⟨qd,dd,qw,dw,⟨m,o,p,q,t⟩,-,-,-⟩:=hY.agent;have AZ:=Ac w _ M;simp only at AZ;clear hr h7 hX hY hn h AH AI;have HP:=D (((0:Int)<=0/\(0:Int)<([(k,l,v,d,ws),(F,l',E,d',G)]:List Qb))/\(0:Int)<=1/\(1:Int)<([(k,l,v,d,ws),(F,l',E,d',G)]:List Qb)) (by simp);have B0:=D (Q07 (Q7 [(k,l,v,d,ws),(F,l',E,d',G)] 0) (Q7 [(k,l,v,d,ws),(F,l',E,d',G)] 1)=(c,s)) (HR.o);unfold Bu at AW;go_enter func269,ntmps269;go_upto_region 1 with fail
 refine Qp λW hW=> ?_;have A9:=D (w,W) (by rw[hW];go_grown);have AA:W.heap[w.heap.size]?=R (.cells #[(),I Z 1] 143):=by rw[hW];exact Bg w _
 have B9:=qh AA;obtain⟨⟨A4,A5⟩,-⟩:=Zj AA;have B1:=D (At Jl W g 0 [(k,l,v,d,ws),(F,l',E,d',G)]) (HA.o.kb A9);have B:=Am A9;replace M:=B.cell _ _ M;replace P:=B.cell _ _ P;replace X:=B.cell _ _ X;replace Y:=B.cell _ _ Y;replace a:=B.cell _ _ a;replace b:=B.cell _ _ b;replace f:=B.cell _ _ f;replace m:=B.cell _ _ m;replace o:=B.cell _ _ o;replace p:=B.cell _ _ p;replace q:=B.cell _ _ q;replace t:=B.cell _ _ t;clear hW AA B;(refine Z9 (λw'=>(W,w')) (by kernel_rfl) (by kernel_rfl) (Ai _ _).drew ?_;(repeat(first|go_big_quiet_skip|(go_big_quiet_want;apply Exists.intro;refine⟨λw' z=> ?_, ?_⟩;(focus(have BA:=jC z A4;have BB:=jC z A5;have BC:=jC z M;go_simp;first|done|with_reducible rfl|(((go_at_call 271;(with_reducible refine(Qgx _ g 0 _ (B1.o.kb z) 0 1 HP).mono ?_);exact λe w3 ⟨he,K⟩=>⟨he.trans (by rw[B0.o]),Q0 z K⟩)))));simp only[Act.put,Cn,Cv,Cx];go_big_quiet_on)));refine Ek ?_;intro wz hz)
 have A0:=qh (Q0 A9 hz);have B:=Am hz;replace A4:=B.cell _ _ A4;replace A5:=B.cell _ _ A5;replace M:=B.cell _ _ M;replace P:=B.cell _ _ P;replace X:=B.cell _ _ X;replace Y:=B.cell _ _ Y;replace a:=B.cell _ _ a;replace b:=B.cell _ _ b;replace f:=B.cell _ _ f;replace m:=B.cell _ _ m;replace o:=B.cell _ _ o;replace p:=B.cell _ _ p;replace q:=B.cell _ _ q;replace t:=B.cell _ _ t;clear hz B;go_wp2_with fail
 by_cases q8:c=8
 ·subst q8
  have U:=D (Q1w bk (k,l,v,d,ws) (F,l',E,d',G)=(0,11)) (by rw[HV.o];rfl);cases s
  all_goals
   go_quiet(fail)
   go_wp2;refine Ce (by simp[results,results269,go_sem];first|rfl|done) rfl ?_;first|exact⟨⟨0,0,by rw[U.o]⟩,by first|exact Q8 A0 _|go_grown⟩|exact⟨_,_,by rw[U.o],by first|exact Q8 A0 _|go_grown⟩
 by_cases q7:c=7;case neg=>
  have U:=D (Q1w bk (k,l,v,d,ws) (F,l',E,d',G)=(c,0)) (by rw[HV.o,if_neg q8,if_neg q7]);cases s
  all_goals
   go_quiet(fail)
   go_wp2;refine Ce (by simp[results,results269,go_sem];first|rfl|done) rfl ?_;first|exact⟨⟨_,_,by rw[U.o]⟩,by first|exact Q8 A0 _|go_grown⟩|exact⟨_,_,by rw[U.o],by first|exact Q8 A0 _|go_grown⟩
 subst q7;cases s;case' false=>have A6:=D (Q1w bk (k,l,v,d,ws) (F,l',E,d',G)=(if(bk:Int)<=v then(0,3)else if Q05 (Yc bk v) l then(7,0)else(0,9))) (HV.o)
 case' true=>have A6:=D (Q1w bk (k,l,v,d,ws) (F,l',E,d',G)=(if(bk:Int)<=E then(0,3)else if Q05 (Yc bk E) l' then(7,0)else(0,9))) (HV.o)
 all_goals
  have h3:=H7.o rfl;go_quiet(fail)
  refine Qp λJ AK=> ?_;have AL:=D (wz,J) (by rw[AK];exact Q8 (Ai _ _) _);have B:=Am AL;replace M:=B.cell _ _ M;replace P:=B.cell _ _ P;replace X:=B.cell _ _ X;replace Y:=B.cell _ _ Y;replace a:=B.cell _ _ a;replace b:=B.cell _ _ b;replace f:=B.cell _ _ f;replace m:=B.cell _ _ m;replace o:=B.cell _ _ o;replace p:=B.cell _ _ p;replace q:=B.cell _ _ q;replace t:=B.cell _ _ t;clear AK B;go_upto_region 10 with fail
  refine Qp λT A1=> ?_;have B2:=qh (Q0 AL (show Bp J J T by rw[A1];go_grown));first|have AB:T.heap[J.heap.size]?=R (.cells #[k,l,v,A pd d cd,A pw ws cw] 153):=(by rw[A1];exact Bg _ _)|have AB:T.heap[J.heap.size]?=R (.cells #[F,l',E,A qd d' dd,A qw G dw] 153):=by rw[A1];exact Bg _ _
  obtain⟨⟨-,u1,u2,-,-⟩,-⟩:=Yf AB;have P:=jC (show Bp J J T by rw[A1];go_grown) P;have A7:=qh (Q0 A0 B2);obtain⟨V,L,U,⟨AM,BD,BE⟩,t1,t2⟩:∃V L:Int,Hd (Q1w bk (k,l,v,d,ws) (F,l',E,d',G)=(if(bk:Int)<=V then(0,3)else if Q05 (Yc bk V) L then(7,0)else(0,9)))/\(0<=V/\0<=L/\L<=1000)/\(T,J.heap.size,1,L)/\(T,J.heap.size,2,V):=by first|exact⟨v,l,A6,h3,u1,u2⟩|exact⟨E,l',A6,h3,u1,u2⟩
  clear h3 A6 u1 u2 A1 AB M X Y a b f m o p q t A4 A5;by_cases hv:(bk:Int)<=V
  ·have A2:=D (Q1w bk (k,l,v,d,ws) (F,l',E,d',G)=(0,3)) (by rw[U.o,if_pos hv])
   have AC:¬V<(bk:Int):=by omega
   go_quiet(fail)
   go_wp2;refine Ce (by simp[results,results269,go_sem];first|rfl|done) rfl ?_;first|exact⟨⟨0,0,by rw[A2.o]⟩,by first|exact Q8 A7 _|go_grown⟩|exact⟨_,_,by rw[A2.o],by first|exact Q8 A7 _|go_grown⟩
  have AC:V<(bk:Int):=by omega
  obtain⟨hh,AN⟩:=Q6f AM AC;have B3:=qh (AY.o _ (Q6g AM AC));obtain⟨bb,ob,rfl,hE⟩:=Rd.elem (AX.o.kb A7) V.toNat hh;rw[AN]at hE;have A2:=D (Q1w bk (k,l,v,d,ws) (F,l',E,d',G)=(if Q05 (Yc bk V) L then(7,0)else(0,9))) (by rw[U.o,if_neg hv]);generalize Yc bk V=S at *
  obtain⟨qn,qc,m0,-,-,hN⟩:=hE.net;simp only[Ty.sz,Cc]at m0;have HN:=qh hN;have AO:=Ac T _ m0;simp only at AO;clear hE hN AN hh;go_quiet(fail)
  refine Qp λC AP=> ?_;have AQ:=D (T,C) (by rw[AP];exact Q8 (Ai _ _) _);have B4:=qh (Q0 A7 AQ);have B:=Am AQ;have B5:=D (∀H,Bp C C H->(H,g,1,A (R (bb,ob)) bk c0)/\(H,J.heap.size,1,L)/\(H,J.heap.size,2,V)/\(H,bb,ob+V.toNat,A qn S qc)) (λH K=>Q8a K (B.cell _ _ P) (B.cell _ _ t1) (B.cell _ _ t2) (B.cell _ _ m0));have AR:=D (∀H,Bp C C H->Rd Jl H [A qn S qc] S) (λH K=>HN.o.kept (B.trans (Am K)));have u:=qh (Qj8 B3);have AS:=D (-1000<=L/\L<=1000) (by omega);have AT:Bp C C C.drew:=(Ai _ _).drew;have AD:=qh AT;have AE:=D (Bp C C (C.alloc (.cells #[jN] 79)).drew) (((Ai _ _).alloc (Aj _) _).drew);have AU:=qh (Aj C);clear AP B P t1 t2 m0 AT AO;go_upto_region 12 with fail
  go_cut [11] (λx wx=>x=.bool (Q05 S L)/\(C,wx))
  case first=>
   go_region_held3(λH=>(H,g,1,A (R (bb,ob)) bk c0)/\(H,J.heap.size,1,L)/\(H,J.heap.size,2,V)/\(H,bb,ob+V.toNat,A qn S qc))
    (((refine B5.o _ ?_);(first|(with_reducible first|exact O.o|exact O.o.alloc O.o.size _|exact(O.o.alloc O.o.size _).setCell O.o.size _|exact O.o.setCell AU _|exact AD.o|exact AE.o)|go_grown)))
    (first
     |((go_at_call 272;(with_reducible refine(Q3m C.drew [A qn S qc] S L (AR.o _ AD) u.o.1 u.o.2.1 u.o.2.2 AS).mono ?_);rintro e AF ⟨B6,B7,B8,rfl,-,K⟩;have O:=qh (Q0 AD K);clear K))
     |((go_at_call 272;(with_reducible refine(Q3m ((C.alloc (.cells #[jN] 79)).drew) [A qn S qc] S L (AR.o _ AE) u.o.1 u.o.2.1 u.o.2.2 AS).mono ?_);rintro e AF ⟨B6,B7,B8,rfl,-,K⟩;have O:=qh (Q0 AE K);have AG:=Qf (w:=(C.alloc (.cells #[jN] 79)).drew) (Bg C (.cells #[jN] 79)) K;have BF:AF.cell? (C,0)=R (A N 0 0):=Q6 AG rfl;have BG:AF.frozen? (C,0)=Bm:=Q0u.free ⟨_,AG⟩ 0;clear K AG))
     |fail)
   all_goals(go_wp2;go_meet)
   ·exact⟨rfl,O.o.alloc O.o.size _⟩
   exact⟨rfl,O.o.setCell AU _⟩
  obtain⟨rfl,AV⟩:=hcut;have A8:=qh (Q0 B4 AV);clear AV;cases ho:Q05 S L
  ·have A3:=D (Q1w bk (k,l,v,d,ws) (F,l',E,d',G)=(0,9)) (by rw[A2.o,ho];rfl)
   clear ho;go_wp2_with fail
   refine Ce (by simp[results,results269,go_sem];first|rfl|done) rfl ?_;first|exact⟨⟨_,_,by rw[A3.o]⟩,A8.o⟩|exact⟨_,_,by rw[A3.o],A8.o⟩
  have A3:=D (Q1w bk (k,l,v,d,ws) (F,l',E,d',G)=(7,0)) (by rw[A2.o,ho];rfl);clear ho;go_wp2_with fail
  refine Ce (by simp[results,results269,go_sem];first|rfl|done) rfl ?_;first|exact⟨⟨_,_,by rw[A3.o]⟩,A8.o⟩|exact⟨_,_,by rw[A3.o],A8.o⟩
def Q8y:∀(n:List Qb) (z:Int),z<=n.foldl (λl x=>max l (aL x)) z/\(∀x∈n,aL x<=n.foldl (λl x=>max l (aL x)) z)/\∀B,z<=B->(∀x∈n,aL x<=B)->n.foldl (λl x=>max l (aL x)) z<=B
 | [],z=>⟨Int.le_refl _,⟨λ_ h=>(List.not_mem_nil h).elim,λB h _=>h⟩⟩
 |a::n,z=>by
  obtain⟨H,F,G⟩:=Q8y n (max z (aL a));rw[List.foldl_cons];refine⟨by omega,λx C=> ?_,λB J E=>G B (by have:=E a Ae;omega) λx C=>E x (Aa _ C)⟩;rcases Aq.1 C with rfl|C
  ·omega
  exact F x C
theorem Q9k{n:Qy0}(h:Yd n=Bn){l}(M:0<=l)(O:l<=8):Q05 n l=decide (V3 n+l<=8):=by
 obtain⟨-,H,-,-⟩:=Yl h;obtain⟨P,J,K⟩:=Q8y n 0;by_cases E:V3 n+l<=8
 ·rw[decide_eq_true E]
  unfold Q05;rw[Bf];intro x C;have:=J x C;unfold Qxr;rw[Ew];grind[V3]
 rw[decide_eq_false E];cases he:Q05 n l with
 |false=>rfl
 |true=>
  exfalso;apply E;have L:=Bf.1 he;have S:V3 n<=8-l:=K (8-l) (by omega) λx C=>by
   have B:=L x C;unfold Qxr at B;rw[Ew]at B;rcases B with B|B
   ·have T:Zf (aK x)=Bm:=by simpa using B
    obtain⟨i,F,rfl⟩:=Av.1 C;have G:=H i F;rw[Qy F]at G;unfold Yb Zm at G;grind
   grind
  omega
def Qjj{bk:List Qy0}{cs p}(B:Zm (aK (Q7 cs p.1)) (aL (Q7 cs p.1))=Bn)(C:Zm (aK (Q7 cs p.2)) (aL (Q7 cs p.2))=Bn)(O:∀n∈bk,Yd n=Bn)(E:Qu cs p=7->(0<=aV (xM cs p))/\0<=aL (xM cs p)/\aL (xM cs p)<=8):
  (Q1w bk (Zb (Q7 cs p.1)) (Zb (Q7 cs p.2))).2=(Zt bk cs p).2/\((Zt bk cs p).2=0->(Q1w bk (Zb (Q7 cs p.1)) (Zb (Q7 cs p.2))).1=Qu cs p/\Qu cs p≠8)/\
  (Qu cs p=7->aV (Q5t (Zb (Q7 cs p.1)) (Zb (Q7 cs p.2)))=aV (xM cs p)/\aL (Q5t (Zb (Q7 cs p.1)) (Zb (Q7 cs p.2)))=aL (xM cs p)):=by
 obtain⟨F,G⟩:=Qr3 B C;have H:(Q07 (Zb (Q7 cs p.1)) (Zb (Q7 cs p.2))).1=Qu cs p:=F;have J:Qu cs p≠8->aV (Q5t (Zb (Q7 cs p.1)) (Zb (Q7 cs p.2)))=aV (xM cs p)/\aL (Q5t (Zb (Q7 cs p.1)) (Zb (Q7 cs p.2)))=aL (xM cs p):=λK=>by have:=G K;unfold xM;rw[<-this];unfold Qxc Q5t;show aV (if(Q07 (Q7 cs p.1) (Q7 cs p.2)).2=Bn then _ else _)=_/\aL (if(Q07 (Q7 cs p.1) (Q7 cs p.2)).2=Bn then _ else _)=_;cases (Q07 (Q7 cs p.1) (Q7 cs p.2)).2<;>exact⟨rfl,rfl⟩
 unfold Q1w;rw[H];generalize hc:Qu cs p=c at *
 by_cases P:c=8
 ·grind[Zt]
 by_cases L:c=7
 ·subst L
  obtain⟨f1,M⟩:=J (by decide);obtain⟨S,T,U⟩:=E rfl;unfold Zt;rw[hc,if_neg (by decide),if_pos rfl,f1,M];simp only[Int.reduceBEq,Bool.false_eq_true,if_false,if_true];refine⟨?_, ?_,λ_=>⟨trivial,trivial⟩⟩
  ·grind[Q9k,Yc]
  grind[Q9k,Yc]
 grind[Zt]
theorem Zh.o{w g F m S}(h:Zh w g F m S){i:Int}(L:i.toNat<(mC m)):∀b∈S.Fs.getD i.toNat [],b∈S.all/\b∉g::(S.put i []).all:=by
 have M:S.Fs.length=(mC m):=by obtain⟨_,_,_,_,_,_,G,_⟩:=h.cells;exact G
 have C:=Ar.1 h.nodup;have H:=Ar.1 C.2;have J:=Ba.1 H.2;have O:=List.pairwise_iff_getElem.1 (List.pairwise_flatten.1 J.1).2;intro b K;have E:=Zv (by omega) K;refine⟨Aa _ (Ag _ E),λB=> ?_⟩;unfold MS.all MS.put at B;simp only at B;rcases Aq.1 B with e|B
 ·exact C.1 (e▸Aa _ (Ag _ E))
 rcases Aq.1 B with e|B
 ·grind
 rcases At0.1 B with B|B
 ·rcases Jc B with B|⟨j,hj,hji,hj2⟩
  ·simp at B
  grind
 grind
def Q5x(p:Ye)(xs:List Wd):Qyb:=(mC (pM p),mF (pM p),mR (pM p),xs)
theorem Qs9{p}(h:mX (pM p)=[])(xs):Q5x p xs=Q3z xs (pM p):=by unfold Q5x Q3z;rw[h,Cl]
def Q2m(bk:List Qy0)(p:Ye)(k:Nat):Qyb×List Qy3:=
 Yz bk (Q5x p ((wX (Q3 p k)).take ((wX (Q3 p k)).length-1))) (Qu (mC (pM p)) (Yg (Q3 p k))) (Zi (mC (pM p)) (Yg (Q3 p k))).1 (Zi (mC (pM p)) (Yg (Q3 p k))).2
theorem Qm1{bk p k}(h:mX (pM p)=[]):Q2m bk p k=(Q3z ((wX (Q3 p k)).take ((wX (Q3 p k)).length-1)) (Yz bk (pM p) (Qu (mC (pM p)) (Yg (Q3 p k))) (Zi (mC (pM p)) (Yg (Q3 p k))).1 (Zi (mC (pM p)) (Yg (Q3 p k))).2).1,(Yz bk (pM p) (Qu (mC (pM p)) (Yg (Q3 p k))) (Zi (mC (pM p)) (Yg (Q3 p k))).1 (Zi (mC (pM p)) (Yg (Q3 p k))).2).2):=by
 unfold Q2m;rw[Qs9 h,Qt8]
def Vb(bk:List Qy0)(p:Ye)(k:Nat):Int×Int:=Zt bk (mC (pM p)) (Yg (Q3 p k))
def Q19(p:Ye)(k:Nat):Int:=Qu (mC (pM p)) (Yg (Q3 p k))
def Qpl{bk p k n}(B:n=Qx (mC (pM p))):Q0f bk (pM p) (Q3 p k)=if(Vb bk p k).2 !=0 then(Vb bk p k).2 else if decide ((n:Int)+Zk (Q19 p k)<(Vb bk p k).1)||decide (1000000000<=(wC (Q3 p k)).getD (Q19 p k-1).toNat 0)then 4 else 0:=by
 unfold Q0f Vb Q19;rw[B]
theorem Qp1{bk p k}(B:mX (pM p)=[])(h:Q0f bk (pM p) (Q3 p k)=0):Q50 bk p k=((mC (Q2m bk p k).1,mF (Q2m bk p k).1,mR (Q2m bk p k).1,[]),(pW p).set k (wP (Q3 p k),wV (Q3 p k),mX (Q2m bk p k).1,(Q2m bk p k).2,(wC (Q3 p k)).set (Q19 p k-1).toNat ((wC (Q3 p k)).getD (Q19 p k-1).toNat 0+1)),pA p):=by
 unfold Q50;rw[if_pos h,Qm1 B];rfl
theorem Qoa{w}(g)(m:Qyb)(h:At Qq w g 0 m)(p0 L)(bk:List Qy0)(O:w.cell? (g,5)=R (A p0 bk L))(AK:Rd (.slice Jl) w [A p0 bk L] bk)(BB:bk<=Bu)(A5:∀n∈bk,Yd n=Bn)(p q)(hp:Qyl (mC m) (p,q))(AL:(aW (Q7 (mC m) p)).length<=100000000)(AM:(aW (Q7 (mC m) q)).length<=100000000)(hx:Zm (aK (Q7 (mC m) p)) (aL (Q7 (mC m) p))=Bn)(hy:Zm (aK (Q7 (mC m) q)) (aL (Q7 (mC m) q))=Bn)(h7:Qu (mC m) (p,q)=7->0<=aV (xM (mC m) (p,q))/\0<=aL (xM (mC m) (p,q))/\aL (xM (mC m) (p,q))<=8):
  Bv prog 247 #[(g,0),.agg #[p,q]] w (oR w (.tuple #[I Z (Zt bk (mC m) (p,q)).1,I Z (Zt bk (mC m) (p,q)).2])):=by
 have HM:=qh h;have y:=qh hp;have AN:=qh AK;have AO:=qh A5;have b:=qh (And.intro AL AM);obtain⟨AP,AQ,AR⟩:=Qjj (bk:=bk) (p:=(p,q)) hx hy A5 h7;obtain⟨AS,AT⟩:=Qr3 (p:=(p,q)) hx hy;have BC:=qh AP;have BD:=qh AQ;have BE:=qh AR;have AU:=qh AS;have BF:=qh AT;have H7:=qh h7;have BG:=Ac w _ O;simp only at BG;clear h hp AK A5 AL AM hx hy h7 AP AQ AR AS AT;go_enter func247,ntmps247;go_upto_region 1 with fail
 refine Qp λW hW=> ?_;have A6:=D (w,W) (by rw[hW];go_grown);have AV:W.heap[w.heap.size]?=R (.cells #[p,q] 143):=by rw[hW];exact Bg w _
 obtain⟨⟨A0,A1⟩,-⟩:=Zj AV;replace O:=jC A6 O;have AW:Bp W W W.drew:=(Ai _ _).drew;have A7:=qh AW;have HS:=D (∀B,Bp W W B->(B,w.heap.size,0,p)/\(B,w.heap.size,1,q)/\(B,g,5,A p0 bk L)) (λB G=>Qc5 G A0 A1 O);clear hW AV AW
 go_region_held3(λB=>(B,w.heap.size,0,p)/\(B,w.heap.size,1,q)/\(B,g,5,A p0 bk L))
  (((with_reducible refine HS.o _ ?_);(first|(with_reducible first|exact A7.o|exact z.o|exact z.o.alloc z.o.size _)|go_grown)))
  (first
   |((go_at_call 268;(with_reducible refine(Qql _ g 0 m (HM.o.kb (Q0 A6 A7)) p q y.o b.o.1 b.o.2).mono ?_);rintro e w1 ⟨vs,rfl,hn,G⟩;obtain⟨pn,cn,rfl,-,-,hn⟩:=Jh hn;have HN:=qh hn;have z:=qh (Q0 A7 G);clear hn G))
   |fail)
 refine Qp λS A8=> ?_;have A9:=D (w1,S) (by rw[A8];go_grown);have AA:S.heap[w1.heap.size]?=R (.cells #[A pn (Qm3 m p q) cn,A p0 bk L,.map N] 327):=by rw[A8];exact Bg w1 _
 have AX:=qh (Q0 A6 (Q0 z.o A9));have x0:S.cell? (w1,0)=R (A pn (Qm3 m p q) cn):=Q6 AA rfl;have x1:S.cell? (w1,1)=R (A p0 bk L):=Q6 AA rfl;have BH:=D (At Jl S w1 0 [Zb (Q7 (mC m) p),Zb (Q7 (mC m) q)]) (⟨[A pn (Qm3 m p q) cn],rfl,λj hj=>by
  have:j=0:=by simpa using hj
  subst this;exact x0,HN.o.kb A9⟩)
 have X1:=qh x1;have BI:=D (∀B,Bp S S B->(B,w.heap.size,0,p)/\(B,w.heap.size,1,q)/\(B,g,5,A p0 bk L)) (λB G=>HS.o B (Q0 z.o (Q0 A9 G)));have BJ:=qh (AN.o.kb AX);have BK:=D ((Q07 (Zb (Q7 (mC m) p)) (Zb (Q7 (mC m) q))).1=7->0<=aV (Q5t (Zb (Q7 (mC m) p)) (Zb (Q7 (mC m) q)))/\0<=aL (Q5t (Zb (Q7 (mC m) p)) (Zb (Q7 (mC m) q)))/\aL (Q5t (Zb (Q7 (mC m) p)) (Zb (Q7 (mC m) q)))<=1000) (λe=>by have e':Qu (mC m) (p,q)=7:=AU.o.symm.trans e;obtain⟨f1,f2⟩:=BE.o e';obtain⟨g1,g2,g3⟩:=H7.o e';rw[show aV (Q5t (Zb (Q7 (mC m) p)) (Zb (Q7 (mC m) q)))=_ from f1,show aL (Q5t (Zb (Q7 (mC m) p)) (Zb (Q7 (mC m) q)))=_ from f2];exact⟨g1,g2,by omega⟩);obtain⟨r,hr⟩:∃r,Q1w bk (Zb (Q7 (mC m) p)) (Zb (Q7 (mC m) q))=r:=⟨_,rfl⟩;have BL:=qh hr;have AB:=D (r.2=(Zt bk (mC m) (p,q)).2) (by rw[<-hr];exact BC.o);have BM:=D ((Zt bk (mC m) (p,q)).2=0->r.1=Qu (mC m) (p,q)/\Qu (mC m) (p,q)≠8) (by rw[<-hr];exact BD.o);obtain⟨cc,ec⟩:=r;clear A8 AA hr x0 x1;go_upto_region 3 with((go_at_call 269;(with_reducible refine(Qsa S w1 BH p0 L bk X1 BJ BB AO BK).mono ?_);rintro e w3 ⟨ci,cj,rfl,G⟩;rw[BL.o];have AY:=qh G;clear G))
 obtain⟨A0,A1,O⟩:=BI.o w3 AY;have AC:=qh (Q0 AX AY);by_cases qe:ec=0;case neg=>
  have AZ:=D ((Zt bk (mC m) (p,q)).1=0/\(Zt bk (mC m) (p,q)).2=ec) (⟨by
   have h2:(Zt bk (mC m) (p,q)).2≠0:=by rw[<-AB.o];exact qe
   revert h2;unfold Zt;repeat' split
   all_goals simp,AB.o.symm⟩)
  go_wp2_with fail
  go_ret2
  exact⟨by rw[AZ.o.1,AZ.o.2];rfl,AC.o⟩
 subst qe;have P:=D ((Zt bk (mC m) (p,q)).2=0) (AB.o.symm);obtain⟨AD,AE⟩:=BM.o P;have AD:cc=Qu (mC m) (p,q):=AD;subst AD;go_upto_region 5 with fail
 obtain⟨C,J⟩:∃C,Qu (mC m) (p,q)=C:=⟨_,rfl⟩;obtain⟨⟨E,M⟩,T⟩:∃f,Zi (mC m) (p,q)=f:=⟨_,rfl⟩;have BN:=D (Ending.returned (.tuple #[I Z (Q07 (Q7 (mC m) p) (Q7 (mC m) q)).1,I Z (Qxc (mC m) (p,q)).1,I Z (Qxc (mC m) (p,q)).2])=Ending.returned (.tuple #[C,E,M])) (by rw[show(Q07 (Q7 (mC m) p) (Q7 (mC m) q)).1=C from AU.o.trans J,BF.o AE,T]);have BO:=D (Qyl (mC m) (E,M)) (by
  rcases Q3j (mC m) (p,q)with⟨e,-⟩|⟨e,-⟩
  ·rw[<-T,e];exact y.o
  rw[<-T,e];exact⟨y.o.2,y.o.1⟩)
 have AF:=D (xM (mC m) (p,q)=Q7 (mC m) E) (by unfold xM;rw[T]);have BP:=D (yM (mC m) (p,q)=Q7 (mC m) M) (by unfold yM;rw[T]);have A2:=D ((aW (Q7 (mC m) E)).length<=100000000/\(aW (Q7 (mC m) M)).length<=100000000) (by
  rcases Q3j (mC m) (p,q)with⟨e,-⟩|⟨e,-⟩
  ·rw[T]at e;cases e;exact b.o
  rw[T]at e;cases e;exact⟨b.o.2,b.o.1⟩)
 have U:=qh (show(Zt bk (mC m) (p,q)).1=(if C==8 then 0
  else if C==3 then 2+3 * ((aW (Q7 (mC m) M)):Int)else if C==4 then((aW (Q7 (mC m) M)):Int)else if C==5 then 1 else if C==6 then 1+((aW (Q7 (mC m) E)):Int)
  else if C==7 then(if(bk:Int)<=aV (Q7 (mC m) E)then 0 else if 8<V3 (Yc bk (aV (Q7 (mC m) E)))+aL (Q7 (mC m) E)then 0 else((Yc bk (aV (Q7 (mC m) E))):Int)-1+((Zg (Yc bk (aV (Q7 (mC m) E)))):Int))else 0)by
  unfold Zt;rw[J,AF.o,BP.o];repeat' split
  all_goals rfl)
 have A3:=qh (show(Zt bk (mC m) (p,q)).2=(if C==8 then 11 else if C==3 then 0 else if C==4 then 0 else if C==5 then 0 else if C==6 then 0
  else if C==7 then(if(bk:Int)<=aV (Q7 (mC m) E)then 3 else if 8<V3 (Yc bk (aV (Q7 (mC m) E)))+aL (Q7 (mC m) E)then 9 else 0)else 0)by
  unfold Zt;rw[J,AF.o];repeat' split
  all_goals rfl)
 have AG:=D (C=7->0<=aV (Q7 (mC m) E)) (by rw[<-AF.o,<-J];exact λe=>(H7.o e).1);rw[J]at AE⊢;clear J T;have BQ:=qh (HM.o.kb AC);(refine Z9 (λw'=>(w3,w')) (by kernel_rfl) (by kernel_rfl) (Ai _ _).drew ?_;(repeat(first|go_big_quiet_skip|(go_big_quiet_want;apply Exists.intro;refine⟨λw' J=> ?_, ?_⟩;(focus(have C6:=jC J A0;have C7:=jC J A1;go_simp;first|done|with_reducible rfl|(((go_at_call 248;(with_reducible refine(Qds g 0 m (BQ.o.kb J) p q y.o b.o.1 b.o.2).mono ?_);exact λe w4 ⟨he,G⟩=>⟨he.trans BN,Q0 J G⟩)))));simp only[Act.put,Cn,Cv,Cx];go_big_quiet_on)));refine Ek ?_;intro F hz)
 have V:=qh (Q0 AC hz);have B0:=HM.o.kb V;obtain⟨pc,cc,px,cx,⟨m0,-,-,-,-⟩,-,⟨-,BR,AH⟩,-⟩:=At.mem (cs:=mC m) (f:=mF m) (t:=(mR m).1) (a:=(mR m).2) (xs:=mX m) B0;replace O:=jC hz O;obtain⟨⟨BS,BT⟩,BU,BV⟩:=BO.o;simp only at BS BT BU BV;have B1:E.toNat<(mC m):=by omega
 have B2:M.toNat<(mC m):=by omega
 obtain⟨b1,o1,rfl,hX⟩:=Rd.elem AH E.toNat B1;obtain⟨b2,o2,B3,hY⟩:=Rd.elem AH M.toNat B2;simp only[Option.some.injEq,Addr.mk.injEq,and_true]at B3;obtain⟨rfl,rfl⟩:=B3;have o:∀i:Int,(h:i.toNat<(mC m))->(mC m)[i.toNat]=Q7 (mC m) i:=λi h=>by rw[Q7,Qy h]
 rw[o E B1]at hX;rw[o M B2]at hY;simp only[Ty.sz,Bj]at hX hY;unfold Bu at BR;clear B0 AH o;generalize Q7 (mC m) E=X at *
 generalize Q7 (mC m) M=Y at *
 obtain⟨k,l,v,d,ws⟩:=X;obtain⟨k',l',v',d',c⟩:=Y;simp only[aW,aV,aL]at U A3 A2 AG;obtain⟨pd,cd,pw,cw,⟨a0,a1,a2,a3,a4⟩,-,-,-⟩:=hX.agent;obtain⟨qd,dd,qw,dw,⟨e0,e1,e2,e3,e4⟩,-,-,-⟩:=hY.agent;have BW:=Ac F _ a0;simp only at BW;have BX:=D (ws.length<=100000000) (A2.o.1);have B4:=D (c.length<=100000000) (A2.o.2);clear hX hY A2;go_upto_region 7 with fail
 by_cases s3:C=3
 ·subst s3
  have K:=D ((Zt bk (mC m) (p,q)).1=2+3 * (c:Int)) (U.o);have B5:IntKind.i64.wrap (3 * (c:Int))=3 * (c:Int):=by have:=B4.o;simp only[Db];omega
  have BY:IntKind.i64.wrap (2+3 * (c:Int))=2+3 * (c:Int):=by have:=B4.o;simp only[Db];omega
  go_wp2_with fail
  go_ret2
  exact⟨by rw[K.o,P.o];rfl,V.o⟩
 by_cases s4:C=4
 ·subst s4
  have K:=D ((Zt bk (mC m) (p,q)).1=(c:Int)) (U.o);go_wp2_with fail
  go_ret2
  exact⟨by rw[K.o,P.o];rfl,V.o⟩
 by_cases s5:C=5
 ·subst s5
  have K:=D ((Zt bk (mC m) (p,q)).1=1) (U.o);go_wp2_with fail
  go_ret2
  exact⟨by rw[K.o,P.o];rfl,V.o⟩
 by_cases s6:C=6
 ·subst s6
  have K:=D ((Zt bk (mC m) (p,q)).1=1+(ws:Int)) (U.o);have B5:IntKind.i64.wrap (1+(ws:Int))=1+(ws:Int):=by have:=BX.o;simp only[Db];omega
  go_wp2_with fail
  go_ret2
  exact⟨by rw[K.o,P.o];rfl,V.o⟩
 by_cases s7:C=7;case neg=>
  have K:=D ((Zt bk (mC m) (p,q)).1=0) (by rw[U.o];simp[s3,s4,s5,s6,s7,AE]);go_wp2_with fail
  go_ret2
  exact⟨by rw[K.o,P.o];rfl,V.o⟩
 subst s7;go_upto_region 17 with fail
 have B6:0<=v:=AG.o rfl;have B7:v<(bk:Int):=by
  have h1:=A3.o;rw[P.o]at h1;by_cases hh:(bk:Int)<=v
  ·simp[hh]at h1
  omega
 have K:=D ((Zt bk (mC m) (p,q)).1=((Yc bk v):Int)-1+((Zg (Yc bk v)):Int)) (by
  have h1:=A3.o;rw[P.o]at h1;have h2:¬(bk:Int)<=v:=by omega
  have h3:¬8<V3 (Yc bk v)+l:=λh=>by simp[h2,h]at h1
  rw[U.o];simp[h2,h3])
 obtain⟨hh,o⟩:=Q6f B6 B7;have B8:=qh (AO.o _ (Q6g B6 B7));obtain⟨bb,ob,rfl,hE⟩:=Rd.elem (AN.o.kb V) v.toNat hh;rw[o]at hE;clear o hh A3 U AG;generalize Yc bk v=H at *
 obtain⟨s,u,n0,-,-,hN⟩:=hE.net;simp only[Ty.sz,Cc]at n0;have HN:=qh hN;have BZ:=Ac F _ n0;have C0:=Ac F _ O;simp only at BZ C0;have C1:=D (∀B,Bp F F B->(B,g,5,A (R (bb,ob)) bk L)/\(B,g,0,A (R (b1,o1)) (mC m) cc)/\(B,b1,o1+E.toNat * 5+2,v)/\(B,bb,ob+v.toNat,A s H u)) (λB G=>Q8a G O m0 a2 n0);have C8:=qh (Aj F);have C2:=D (Bp F F F.drew) ((Ai _ _).drew);clear hE hN a0 a1 a3 a4 e0 e1 e2 e3 e4 A0 A1;go_cut [15] (λx wx=>x=.pointer (R (F,0))/\(wx,oC F.heap.size #[A s H u] 79)/\(F,wx))
 case first=>
  go_region_held3(λB=>(B,g,5,A (R (bb,ob)) bk L)/\(B,g,0,A (R (b1,o1)) (mC m) cc)/\(B,b1,o1+E.toNat * 5+2,v)/\(B,bb,ob+v.toNat,A s H u))
   (((refine C1.o _ ?_);(first|with_reducible exact C2.o|go_grown))) (first|fail)
  all_goals(go_wp2;go_meet)
  all_goals exact⟨rfl,Bg F _,by go_grown⟩
 obtain⟨rfl,AI,A4⟩:=hcut;have C9:=qh A4;have C3:=qh (Q0 V A4);have C4:wc.cell? (F,0)=R (A s H u):=Q6 AI rfl;have C5:=D (At Jl wc F 0 H) (At.ofBox (us:=[A s H u]) AI (HN.o.kb A4));have AJ:=D (Bp wc wc wc.drew) ((Ai _ _).drew);obtain⟨⟨CA,CB⟩,-,-,B9⟩:=Yl B8;have CC:=Q7m B9;have B5:IntKind.i64.wrap ((H:Int)-1)=(H:Int)-1:=by simp only[Db];omega
 have BY:IntKind.i64.wrap ((H:Int)-1+((Zg H):Int))=(H:Int)-1+((Zg H):Int):=by simp only[Db];omega
 clear AI A4 B9;go_upto_region 18 with fail
 go_region_held3(λB=>B.cell? (F,0)=R (A s H u))
  (((with_reducible refine(Am (w:=wc) ?_).cell _ _ C4);(with_reducible first|exact AJ.o|exact BA.o)))
  ((go_at_call 270;(with_reducible refine(Qlb F 0 H (C5.o.kb AJ) B8).mono ?_);rintro e wf ⟨vv,rfl,ho,G⟩;obtain⟨pi,CD,rfl,-,-⟩:=ho.form;have BA:=qh (Q0 AJ G);clear ho G))
 all_goals
  go_wp2_with fail
  go_ret2
  exact⟨by rw[K.o,P.o];rfl,Q0 C3 BA⟩
def Q7s{p}{xs:List Qb}{k:Nat}(h):(((xs.take (k+1)).countP p:Nat):Int)=((xs.take k).countP p:Nat)+Q22 (p xs[k]):=by
 rw[Qab h];unfold Q22;split<;>simp_all
def Qbd(p)(xs:List Qb)(k):(xs.take k).countP p<=xs:=by
 refine Au List.countP_le_length ?_;rw[Cf];omega
def Qdy{w}(b o)(m:Qyb)(h:At Qq w b o m)(hn:(mC m).length<=1000000):
  Bv prog 249 #[(b,o)] w (oR w (.tuple #[(((mC m).countP (λc=>Y9 (aK c)):Nat):Int),(((mC m).countP (λc=>aK c==13):Nat):Int),((Qx (mC m):Nat):Int)])):=by
 obtain⟨pc,cc,px,cx,⟨c0,-,-,-,-⟩,-,⟨-,A3,z⟩,-⟩:=At.mem (cs:=mC m) (f:=mF m) (t:=(mR m).1) (a:=(mR m).2) (xs:=mX m) h;have HC:=qh z;have A4:=Ac w _ c0;simp only at A4;unfold Bu at A3;generalize mC m=cs at *
 clear h z;go_enter func249,ntmps249;go_wp2
 go_loopw [2,3,4,12] (λu2 u3 u4 i wr=>∃(j:Nat),j<=cs/\i=I Z j/\u2=I Z (((cs.take j).countP (λc=>Y9 (aK c)):Nat):Int)/\u3=I Z (((cs.take j).countP (λc=>aK c==13):Nat):Int)/\u4=I Z (((cs.take j).countP (λc=>aK c==0):Nat):Int)/\Hd (w,wr)) (λ_ _ _ i _=>cs.length-(By i).toNat);case atStart=>exact⟨0,Ak _,rfl,rfl,rfl,rfl,Ai _ _⟩
 obtain⟨j,hj,rfl,rfl,rfl,rfl,T⟩:=hrel;by_cases J:j<cs
 ·obtain⟨b1,o1,rfl,U⟩:=Rd.elem (HC.o.kb T) j J
  have A5:=qh (Q7s (p:=λc=>Y9 (aK c)) J);have A6:=qh (Q7s (p:=λc=>aK c==13) J);have A7:=qh (Q7s (p:=λc=>aK c==0) J);have A8:=Qbd (λc=>Y9 (aK c)) cs j;have A9:=Qbd (λc=>aK c==13) cs j;have AA:=Qbd (λc=>aK c==0) cs j;generalize cs[j]=x at *
  obtain⟨k,l,v,d,ws⟩:=x;obtain⟨C,E,F,G,⟨e0,e1,e2,V,X⟩,-,-,-⟩:=U.agent;have Y:=D (∀W,Bp wr wr W->Rd Q4 W [k,l,v,A C d E,A F ws G] (k,l,v,d,ws)) (λW B=>(U.rdv V X).kb B);simp only[Ty.sz,Bj]at e0 e1 e2 V X;clear U;generalize (cs.take j).countP (λc=>Y9 (aK c))=n1 at *
  generalize (cs.take j).countP (λc=>aK c==13)=n2 at *
  generalize (cs.take j).countP (λc=>aK c==0)=n3 at *
  obtain⟨g,A0⟩:∃t,Q22 (Y9 k)=t:=⟨_,rfl⟩;obtain⟨n,A1⟩:∃t,Q22 (k==13)=t:=⟨_,rfl⟩;obtain⟨q,A2⟩:∃t,Q22 (k==0)=t:=⟨_,rfl⟩;have H:=qh (And.intro A0 (And.intro A1 A2));have AE:IntKind.i64.wrap ((n1:Int)+g)=(n1:Int)+g:=by have:=Qb3 (Y9 k);simp only[Db];omega
  have AF:IntKind.i64.wrap ((n2:Int)+n)=(n2:Int)+n:=by have:=Qb3 (k==13);simp only[Db];omega
  have AG:IntKind.i64.wrap ((n3:Int)+q)=(n3:Int)+q:=by have:=Qb3 (k==0);simp only[Db];omega
  clear A0 A1 A2 A8 A9 AA;have AH:(j:Int)<cs:=by omega
  have AI:(0:Int)<=j:=by omega
  go_upto_region 4 with fail
  refine Qp λr s=> ?_;have K:=D (wr,r) (by rw[s];go_grown);obtain⟨L,M,O,P,S⟩:=Q11 wr k l v (A C d E) (A F ws G) 172;rw[<-s]at L M O P S;have HG:=D (∀W,Bp r r W->(W,wr.heap.size,0,k)/\(W,wr.heap.size,1,l)/\(W,wr.heap.size,2,v)/\(W,wr.heap.size,3,A C d E)/\(W,wr.heap.size,4,A F ws G)) (λW B=>Qde B L M O P S);clear s e0 e1 e2 V X;go_upto_region 5 with(first|((go_at_call 163;(with_reducible refine jR (Q5c [k,l,v,A C d E,A F ws G] (Y.o _ K)) λw2 B=> ?_);have u:=qh B;clear B))|((go_at_call 69;(with_reducible refine jX (Q3f _) ?_);rw[show Q22 (Y9 (aK (k,l,v,d,ws)))=g from H.o.1]))|fail)
  obtain⟨L,M,O,P,S⟩:=HG.o _ u.o;go_upto_region 6 with(first|((go_at_call 129;(with_reducible refine jR (Q18 [k,l,v,A C d E,A F ws G] (Y.o _ (Q0 K u.o))) λw4 B=> ?_);have y:=qh (Q0 u.o B);clear B))|((go_at_call 69;(with_reducible refine jX (Q3f _) ?_);rw[show Q22 (aK (k,l,v,d,ws)==13)=n from H.o.2.1]))|fail)
  obtain⟨L,M,O,P,S⟩:=HG.o _ y.o;go_upto_region 7 with(first|((go_at_call 165;(with_reducible refine jR (Vt [k,l,v,A C d E,A F ws G] (Y.o _ (Q0 K y.o))) λw6 B=> ?_);have AB:=qh (Q0 y.o B);clear B))|((go_at_call 69;(with_reducible refine jX (Q3f _) ?_);rw[show Q22 (aK (k,l,v,d,ws)==0)=q from H.o.2.2]))|fail)
  go_wp2
  go_roundw;case rel=>exact⟨j+1,by omega,by go_num,congrArg _ (A5.o.trans (by rw[<-H.o.1];rfl)).symm,congrArg _ (A6.o.trans (by rw[<-H.o.2.1];rfl)).symm,congrArg _ (A7.o.trans (by rw[<-H.o.2.2];rfl)).symm,(show Bp _ _ _ from Q0 T (Q0 K AB))⟩
  simp[By];omega
 have AC:cs<=j:=by omega
 have AD:=D (cs.take j=cs) (Ao AC);go_wp2_with fail
 refine Ce (by simp[results,results249,go_sem];first|rfl|done) rfl ?_;exact⟨by rw[AD.o];rfl,T.o⟩
def Qeb:(prog.info? 289).map (λi=>(i.zero,i.size,i.bytes))=R (R (Dl #[(),(),(),()]),4,32):=by kernel_rfl
def Q5p.arg{w T}{x:Qb}{B C E F H G}(h:Ow Q4 w [B,C,E,F,H] x G):Q5p Q4 (w.alloc (.cells #[B,C,E,F,H] T)) w 0 x G:=
 ⟨_,rfl,Q1n (Q6 (Bg w _) rfl) (Q6 (Bg w _) rfl) (Q6 (Bg w _) rfl) (Q6 (Bg w _) rfl) (Q6 (Bg w _) rfl),h.kept λb J=>Az _ _ _ (h.lt b J),by simp⟩
theorem Je.empty{e B S w}:Je e B S w (A N 0 0) []:=⟨[],Ow.nil w,by simp,by simp⟩
theorem Qs8(w g m S l)(h:Zh w g 0 m S)(hl:Yq m l)(k lv v:Int)(d:List Int)(ws:List Wd)(pd pw cd cw G)(ho:Ow Q4 w [k,lv,v,A pd d cd,A pw ws cw] (k,lv,v,d,ws) G)(hG:∀c∈G,c∉g::S.all)(BN:ws.length<=l)(BO:ws.length<=1000)(hC:(mC m).length<=1000000):
  Bv prog 253 #[(g,0),.agg #[k,lv,v,A pd d cd,A pw ws cw]] w λe w'=>∃v' S' l',e=.returned v'/\Qn w S g 0 w' (ws.foldl Ym (m,[])).1 S' l'/\Je Z7 w S' w' v' (ws.foldl Ym (m,[])).2:=by
 have A0:=qh (Qn.start h hl);have M:=qh ho;have A8:=qh h.lt;have HG:=qh hG;have BP:g<w:=h.blk.lt;clear h hl ho hG;go_enter func253,ntmps253;go_upto_region 2 with fail
 refine Qp λW p=> ?_;have s:=D (w,W) (by rw[p];go_grown);have AV:=D (Q5p Q4 W w 0 (k,lv,v,d,ws) G) (by rw[p];exact Q5p.arg M);have AW:=D (Qao (w.heap.size::G) g S) (λc B=>by
  rcases Aq.1 B with rfl|B
  ·exact λJ=>by have:=A8.o _ J;omega
  exact HG.o c B)
 have AX:=qh (Qn.start (A0.o.below s.o).mem (A0.o.below s.o).free);obtain⟨_,_,BQ,BR,-,-,AY,A1⟩:=AV.o.facts AW;unfold Bu at AY;have AZ:=qh A1;obtain⟨⟨-,-,-,-,y4⟩,-,-⟩:=A1 W (Q1.refl _ _);simp only[Nat.zero_add]at y4;have BS:W.heap.size=w+1:=by rw[p];simp
 obtain⟨i0,B0,B1,B2,B3⟩:=Ck Qeb;have A2:=D (Qyn 5/\Qyn 0) (by unfold Qyn;omega);have B4:=D (∀V:World,Ow Q4 V [I Z 5,(),(),jN,jN] (5,0,0,[],[]) []) (λV=>Ow.mkAgent A2.o.1 A2.o.2 A2.o.2 (Ow.nil _) (Ow.nil _));have B5:=D (∀c∈g::S.all,c<w.heap.size) (A8.o);clear p A1;go_wp2
 go_loopw [5,11] (λu i wr=>∃(j:Nat) (S':MS) (l':List Nat),j<=ws/\i=I Z j/\Hd (Qn W S g 0 wr ((ws.take j).foldl Ym (m,[])).1 S' l')/\Hd (Je Z7 W S' wr u ((ws.take j).foldl Ym (m,[])).2)/\Hd (ws.length<=l'.length+j)/\Hd (((ws.take j).foldl Ym (m,[])).2.length=j)/\Hd ((mC ((ws.take j).foldl Ym (m,[])).1).length=(mC m))) (λ_ i _=>ws.length-(By i).toNat);case atStart=>exact⟨0,S,l,Ak _,rfl,AX.o,Je.empty,(show _<=_ by omega),rfl,rfl⟩
 obtain⟨j,S',l',hj,rfl,E,M,A9,AA,AB⟩:=hrel;have BT:=E.o.fr.size;by_cases AC:j<ws
 ·obtain⟨e,O,rfl⟩:∃e O,l'=e::O:=by
   match l',(show 0<l'.length by have:=A9.o;omega)with
   |e::O,_=>exact⟨e,O,rfl⟩
  have x:=D ((ws.take (j+1)).foldl Ym (m,[])=Ym ((ws.take j).foldl Ym (m,[])) ws[j]) (by rw[An AC,List.foldl_append];rfl);generalize (ws.take j).foldl Ym (m,[])=Fj at *
  obtain⟨P,T⟩:=Fj;have E:=D (Qn W S g 0 wr P S' (e::O)) (E.o);obtain⟨-,-,AD⟩:=AZ.o _ E.o.fr;obtain⟨by_,BU,rfl,hE⟩:=Rd.elem AD j AC;have B6:=D (ws[j]=(ws[j].1,ws[j].2)) (rfl);obtain⟨f0,f1,AE,AF⟩:=At.word (t:=ws[j].1) (a:=ws[j].2) hE;generalize ws[j].1=wt at *
  generalize ws[j].2=wa at *
  simp only[Ty.sz,Bj]at f0 f1;have AG:=qh (And.intro AE AF);clear hE AD AE AF;obtain⟨pu,cu,rfl⟩:=M.o.form;obtain⟨z,AH⟩:=M.o;have C:=qh AH;have AI:=D (mF P=(e:Int)/\e<(mC P).length) (⟨(E.o.first Z6).1,(E.o.first Z6).2.1⟩);have B7:=D (Qyn (e:Int)) (by have h1:=AI.o.2;have h2:(mC P).length=(mC m):=AB.o;unfold Qyn;omega);have BV:(0:Int)<=j:=by omega
  have BW:(j:Int)<ws:=by omega
  have A3:=D (∀q∈(S'.put (e:Int) []).all,q∈S'.all) (λq J=>(Y0 J).elim (λh=>by simp at h) id);have B8:=qh E.o.mem.lt;have AJ:=D (∀q∈([]:List Nat),W<=q/\q∉g::S'.all) (by simp);clear AH;go_upto_region 5 with fail
  refine Qp λU A4=> ?_;have AK:=D (wr,U) (by rw[A4];go_grown);have A5:U.heap[wr.heap.size]?=R (.cells #[wt,wa] 40):=by rw[A4];exact Bg wr _
  obtain⟨⟨k0,k1⟩,-⟩:=Zj A5;have A6:wr.heap.size<U:=Zl A5;have B9:=qh (E.o.below AK);have AL:=D (S.cb<w) (B5.o _ (Aa _ Ae));have BA:=D (∀V,Q1 (λc=>c=g\/c=S.cb\/c∈z) U V->(V,wr.heap.size,0,wt)/\(V,wr.heap.size,1,wa)) (λV f=>by
   have AM:¬(wr=g\/wr=S.cb\/wr.heap.size∈z):=by
    rintro(e|e|e)
    ·omega
    ·have:=AL.o;omega
    have:=C.o.1.lt _ e;omega
   exact⟨(f.cell A6 AM _).trans k0,(f.cell A6 AM _).trans k1⟩)
  clear A4 A5 f0 f1
  go_region_held3(λV=>(V,wr.heap.size,0,wt)/\(V,wr.heap.size,1,wa))
   (((with_reducible refine BA.o _ ?_);(first|(with_reducible first|exact BB.o|exact AN.o|exact AO.o|exact AP.o|exact(Q1.refl _ _).drew)|fail)))
   (first
    |((go_at_call 273;(with_reducible refine(Q60 B9.o.drew 5 0 0 N N 0 0 0 0 (5,0,0,[],[]) [] (B4.o _) List.nodup_nil (λq H=>(AJ.o q H).2) (λq H=>(AJ.o q H).1)).mono ?_);rintro X w8 ⟨rfl,hs,f⟩;have BC:=qh hs;have AQ:=qh (Q1.trans (show Q1 (λc=>c=g\/c=S.cb) U _ from(Q1.refl _ U).drew) f);have AP:=qh (AQ.o.mono (Y:=λc=>c=g\/c=S.cb\/c∈z) λc B=>B.elim .inl λh=> .inr (.inl h));clear hs f))
    |((go_at_call 277;(with_reducible refine(Q0g _ (e:Int)).mono ?_);rintro X K ⟨rfl,L⟩;have BD:=qh (BC.o.below L);have AR:=qh (Q1.trans AQ (Ay L));have AO:=qh (Q1.trans AP (Ay L));have BE:=qh (BD.o.below (show Bp K K (K.alloc (.cells #[wt,wa,I Z 1,e] 289))from(Ai _ _).alloc (Aj _) _));have AN:=qh (AO.o.alloc (.cells #[wt,wa,I Z 1,e] 289));have BF:=AR.o.size;clear L))
    |((refine Yk _ rfl (.tmp 15) (.tmp 24) 285 rfl (e:=Z7) 289 i0 _ 32 underlying285 B0 B1 B2 B3 rfl (by decide) (v:=A pu T cu) (xs:=T) (y:=((wt,wa),((1:Int),(e:Int)))) (vs:=[wt,wa,I Z 1,e]) (F:=z) K 1 rfl rfl ((C.o.1.frame (Q1.trans (Ay AK) AR) (λq H=>⟨C.o.1.lt q H,λX=>by have h1:=(C.o.2.2 q H).1;have:=AL.o;omega⟩)).kept λq H=>Az _ _ _ (Ap (Ap (C.o.1.lt q H) (Nat.le_of_lt A6)) BF)) C.o.2.1 (Ow.link AG.o.1 AG.o.2 (by unfold Qyn;omega) B7) (Qaf (Q6 (Bg K _) rfl) (Q6 (Bg K _) rfl) (Q6 (Bg K _) rfl) (Q6 (Bg K _) rfl)) Qmj (by have h9:T=j:=AA.o;omega) ?_;intro BX BY BZ BG AS AT AU A7;have BH:=qh AS;have BI:=qh AT;have BJ:=qh AU;have BK:=qh (BE.o.other A7 (λc B=>⟨λJ=>(Aq.1 J).elim (λX=>by have:=(C.o.2.2 c B).1;omega) (λh=>(C.o.2.2 c B).2 (A3.o c h)),(C.o.2.2 c B).1⟩));have BB:=qh (AN.o.trans (A7.mono λc B=> .inr (.inr B)));clear AS AT AU A7))
    |fail)
  all_goals
   go_wp2
   go_roundw;case rel=>exact⟨j+1,S'.put (e:Int) [],O,by omega,by go_num,(show Qn _ _ _ _ _ _ _ _ by rw[x.o];exact BK.o),(show Je _ _ _ _ _ _ by rw[x.o,B6.o];show Je Z7 _ _ _ _ (T++ [((wt,wa),((1:Int),mF P))]);rw[AI.o.1];exact⟨BG,BH.o,BI.o,λq H=>(BJ.o q H).elim (λh=>⟨(C.o.2.2 q h).1,λJ=>(C.o.2.2 q h).2 (A3.o q J)⟩) (λX=>⟨by rw[X];simp;omega,λJ=>by have:=B8.o q (Aa _ (A3.o q J));rw[X]at this;simp at this;omega⟩)⟩),(show _<=_ by have:=A9.o;simp only[List.length_cons]at this;omega),(show _=_ by rw[x.o];show(T++ [_]).length=j+1;rw[Bo];have h9:T=j:=AA.o;rw[h9];rfl),(show _=_ by rw[x.o];show(mC (Qi P _)).length=_;rw[Qg];exact AB.o)⟩
   simp[By];omega
 have BL:ws<=j:=by omega
 have BM:=D (ws.take j=ws) (Ao BL);go_wp2
 go_ret;rw[BM.o]at E M;refine⟨_,S',l',rfl,Qn.trans (A0.o.below s.o) E, ?_⟩;obtain⟨F,o,n,r⟩:=M.o;exact⟨F,o,n,λb L=>⟨Au s.o.size (r b L).1,(r b L).2⟩⟩
end Go.Proofs.YtcjngpfigpglfaaGreatDoor
