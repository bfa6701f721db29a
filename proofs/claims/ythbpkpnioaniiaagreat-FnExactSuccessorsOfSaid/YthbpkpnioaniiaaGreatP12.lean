import Derived.Test.YthbpkpnioaniiaaGreatP10
set_option maxHeartbeats 40000000
set_option maxRecDepth 100000
set_option linter.all false
namespace Go.Proofs.YthbpkpnioaniiaaGreat
open Go.RowKit Go.Proofs.Tryz
open Go.Value renaming int->I,slice->A
open Go.IntKind renaming i64->Z
open Option renaming none->N,some->R
open Bool renaming false->Bm,false_and->Cn,and_false->Dp,true->Bn,true_and->Dl,and_eq_true->Bl
open Exists renaming intro->Dm
open Go renaming World->Bh,Calls->Bq,wpQuiet_nil->Ds,bodyPost_ret->Ca
open Go.Ending renaming returned->Dj
open Go.RowKit renaming Below->Bi,intOf->Bv
open List renaming setIfInBounds_toArray->Ci,set_cons_zero->Cs,set_cons_succ->Cw,countP_le_length->Dc
open Nat renaming reduceAdd->Bj
theorem Qhl(w:Bh)(b o:Nat)(m:Qqp)(h:At Qo w b o m)(x y:Int):
  Bq prog 170 #[.pointer (R ⟨b,o,N⟩),.agg #[I Z x,I Z y]] w λe w'=>e=.returned (.bool (Zx (mC m) (x,y)))/\Bi w.heap.size w w':=by
 obtain⟨cs,f,⟨rt,ra⟩,xs⟩:=m;obtain⟨pc,cc,px,cx,⟨m0,-,-,-,-⟩,-,⟨-,hm,hc⟩,-⟩:=h.mem;unfold maxLen at hm;have HC:=qh hc;clear h hc;show Bq _ _ _ _ λe w'=>e=.returned (.bool (Zx cs (x,y)))/\Bi w.heap.size w w';have A7:∃E,E=w.alloc (.cells #[I Z x,I Z y] 117):=⟨_,rfl⟩;obtain⟨E,U⟩:=A7;have H:D (Bi w.heap.size w E):=qh (by rw[U];go_grown);have A8:D (E.heap[w.heap.size]?=R (.cells #[I Z x,I Z y] 117 (0,0))):=qh (by rw[U];exact heap_alloc_new w _);have O:=qh U;clear U;obtain⟨⟨V,W⟩,-⟩:=Za A8.o;have F:=(Am H.o).cell _ _ m0;clear m0;by_cases q0:x<y;rotate_left
 ·have b0:decide (x<y)=Bm:=by simpa using q0
  have J:D (Zx cs (x,y)=Bm):=qh (by have:Qqz x 0 (y-1)=Bm:=Q0h.2 (by omega);simp only[Zx,this,Cn,Dp]);go_enter func170,ntmps170;go_upto_region 1 with fail
  rw[<-O.o];go_quiet(fail)
  go_wp2;go_ret;exact⟨Q2 J.o.symm,Q6 H.o _⟩
 have b0:decide (x<y)=Bn:=by simpa using q0
 cases q1:Qqz x 0 ((cs.length:Int)-1)with
 |false=>
  have J:D (Zx cs (x,y)=Bm):=qh (by
   have i:=Q0h.1 q1;cases L:Qqz y 1 ((cs.length:Int)-1)with
   |false=>simp only[Zx,L,Cn]
   |true=>have L:=Ql.1 L;have:Qqz x 0 (y-1)=Bm:=Q0h.2 (by omega);simp only[Zx,this,Cn,Dp])
  have M:=qh q1;go_enter func170,ntmps170;go_upto_region 1 with fail
  rw[<-O.o];(refine Z0 (λw'=>Bi E.heap.size E w') (by kernel_rfl) (by kernel_rfl) (Ai _ _).drew ?_;(repeat(first|go_big_quiet_skip|(go_big_quiet_want;apply Dm;refine⟨λw' B=> ?_, ?_⟩;(focus(have j:=(Am B).cell _ _ V;have n:=(Am B).cell _ _ W;have p:=(Am B).cell _ _ F;go_simp;first|done|with_reducible rfl|(((with_reducible refine(Vf _ _ _ _ _ _ _ ((Am B).cell _ _ F)).mono ?_);exact λe G ⟨C,hw⟩=>⟨by rw[C,M.o],hw▸B⟩))));simp only[Act.put,Ci,Cs,Cw];go_big_quiet_on)));refine Ds ?_;intro q K)
  go_wp2;go_ret;exact⟨Q2 J.o.symm,Q0 H.o K⟩
 |true=>
 cases q2:Qqz y 0 ((cs.length:Int)-1)with
 |false=>
  have J:D (Zx cs (x,y)=Bm):=qh (by have i:=Q0h.1 q2;have L:=Ql.1 q1;have:Qqz y 1 ((cs.length:Int)-1)=Bm:=Q0h.2 (by omega);simp only[Zx,this,Cn]);have M:=qh q1;have X:=qh q2;go_enter func170,ntmps170;go_upto_region 1 with fail
  rw[<-O.o];(refine Z0 (λw'=>Bi E.heap.size E w') (by kernel_rfl) (by kernel_rfl) (Ai _ _).drew ?_;(repeat(first|go_big_quiet_skip|(go_big_quiet_want;apply Dm;refine⟨λw' B=> ?_, ?_⟩;(focus(have j:=(Am B).cell _ _ V;have n:=(Am B).cell _ _ W;have p:=(Am B).cell _ _ F;go_simp;first|done|with_reducible rfl|(first|((with_reducible refine(Vf _ _ _ _ _ _ x ((Am B).cell _ _ F)).mono ?_);exact λe G ⟨C,hw⟩=>⟨by rw[C,M.o],hw▸B⟩)|((with_reducible refine(Vf _ _ _ _ _ _ y ((Am B).cell _ _ F)).mono ?_);exact λe G ⟨C,hw⟩=>⟨by rw[C,X.o],hw▸B⟩))));simp only[Act.put,Ci,Cs,Cw];go_big_quiet_on)));refine Ds ?_;intro q K)
  go_wp2;go_ret;exact⟨Q2 J.o.symm,Q0 H.o K⟩
 |true=>
  have i1:=Ql.1 q1;have i2:=Ql.1 q2;have A3:x.toNat<cs.length:=by omega
  have A4:y.toNat<cs.length:=by omega
  have AO:0<=x:=i1.1;have AP:0<=y:=i2.1;have AQ:x<(cs.length:Int):=by omega
  have AR:y<(cs.length:Int):=by omega
  obtain⟨b1,o1,rfl,P⟩:=Rd.elem HC.o x.toNat A3;obtain⟨b2,o2,A5,S⟩:=Rd.elem HC.o y.toNat A4;simp only[Option.some.injEq,Addr.mk.injEq,and_true]at A5;obtain⟨rfl,rfl⟩:=A5;have e1:Q7 cs x=cs[x.toNat]:=Qx A3;have e2:Q7 cs y=cs[y.toNat]:=Qx A4;have J:D (Zx cs (x,y)=(J5 (aK cs[x.toNat]) && J5 (aK cs[y.toNat]))):=qh (by have i:Qqz y 1 ((cs.length:Int)-1)=Bn:=Ql.2 (by omega);have L:Qqz x 0 (y-1)=Bn:=Ql.2 (by omega);simp only[Zx,i,L,Dl,e1,e2]);clear e1 e2;have P:=P.kept (Am H.o);have S:=S.kept (Am H.o);generalize cs[x.toNat]=u at *
  generalize cs[y.toNat]=v at *
  obtain⟨k,l,z,d,ws⟩:=u;obtain⟨r,l',z',d',A9⟩:=v;obtain⟨pd,cd,pw,cw,⟨s,t,c2,Y,a⟩,-,-,-⟩:=P.agent;obtain⟨AA,AB,AC,AD,⟨A0,A1,A2,c,g⟩,-,-,-⟩:=S.agent;have HA:=qh (P.rdv Y a);have HE:=qh (S.rdv c g);simp only[Ty.sz,Bj]at s t c2 Y a A0 A1 A2 c g;have M:=qh q1;have X:=qh q2;clear P S q1 q2 i1 i2;cases r1:J5 k with
  |false=>
   have T:=qh r1;go_enter func170,ntmps170;go_upto_region 1 with fail
   rw[<-O.o];(refine Z0 (λw'=>Bi E.heap.size E w') (by kernel_rfl) (by kernel_rfl) (Ai _ _).drew ?_;(repeat(first|go_big_quiet_skip|(go_big_quiet_want;apply Dm;refine⟨λw' B=> ?_, ?_⟩;(focus(have j:=(Am B).cell _ _ V;have n:=(Am B).cell _ _ W;have p:=(Am B).cell _ _ F;have AE:=(Am B).cell _ _ s;have AF:=(Am B).cell _ _ t;have AG:=(Am B).cell _ _ c2;have AH:=(Am B).cell _ _ Y;have AI:=(Am B).cell _ _ a;have AJ:=(Am B).cell _ _ A0;have AK:=(Am B).cell _ _ A1;have AL:=(Am B).cell _ _ A2;have AM:=(Am B).cell _ _ c;have AN:=(Am B).cell _ _ g;go_simp;first|done|with_reducible rfl|(first|((with_reducible refine(Vf _ _ _ _ _ _ x ((Am B).cell _ _ F)).mono ?_);exact λe G ⟨C,hw⟩=>⟨by rw[C,M.o],hw▸B⟩)|((with_reducible refine(Vf _ _ _ _ _ _ y ((Am B).cell _ _ F)).mono ?_);exact λe G ⟨C,hw⟩=>⟨by rw[C,X.o],hw▸B⟩)|((with_reducible refine(Q47 _ [I Z k,I Z l,I Z z,A pd d.length cd,A pw ws.length cw] _ (HA.o.kept (Am B))).mono ?_);exact λe G ⟨C,hb⟩=>⟨C.trans (by show Dj (Value.bool (J5 k))=_;rw[T.o]),Q0 B hb⟩))));simp only[Act.put,Ci,Cs,Cw];go_big_quiet_on)));refine Ds ?_;intro q K)
   go_wp2;go_ret;exact⟨Q2 (by rw[J.o];simp only[aK];rw[T.o];rfl),Q0 H.o K⟩
  |true=>
   have T:=qh r1;cases r2:J5 r
   all_goals
    have A6:=qh r2;go_enter func170,ntmps170;go_upto_region 1 with fail
    rw[<-O.o];(refine Z0 (λw'=>Bi E.heap.size E w') (by kernel_rfl) (by kernel_rfl) (Ai _ _).drew ?_;(repeat(first|go_big_quiet_skip|(go_big_quiet_want;apply Dm;refine⟨λw' B=> ?_, ?_⟩;(focus(have j:=(Am B).cell _ _ V;have n:=(Am B).cell _ _ W;have p:=(Am B).cell _ _ F;have AE:=(Am B).cell _ _ s;have AF:=(Am B).cell _ _ t;have AG:=(Am B).cell _ _ c2;have AH:=(Am B).cell _ _ Y;have AI:=(Am B).cell _ _ a;have AJ:=(Am B).cell _ _ A0;have AK:=(Am B).cell _ _ A1;have AL:=(Am B).cell _ _ A2;have AM:=(Am B).cell _ _ c;have AN:=(Am B).cell _ _ g;go_simp;first|done|with_reducible rfl|(first|((with_reducible refine(Vf _ _ _ _ _ _ x ((Am B).cell _ _ F)).mono ?_);exact λe G ⟨C,hw⟩=>⟨by rw[C,M.o],hw▸B⟩)|((with_reducible refine(Vf _ _ _ _ _ _ y ((Am B).cell _ _ F)).mono ?_);exact λe G ⟨C,hw⟩=>⟨by rw[C,X.o],hw▸B⟩)|((with_reducible refine(Q47 _ [I Z k,I Z l,I Z z,A pd d.length cd,A pw ws.length cw] _ (HA.o.kept (Am B))).mono ?_);exact λe G ⟨C,hb⟩=>⟨C.trans (by show Dj (Value.bool (J5 k))=_;rw[T.o]),Q0 B hb⟩)|((with_reducible refine(Q47 _ [I Z r,I Z l',I Z z',A AA d'.length AB,A AC A9.length AD] _ (HE.o.kept (Am B))).mono ?_);exact λe G ⟨C,hb⟩=>⟨C.trans (by show Dj (Value.bool (J5 r))=_;rw[A6.o]),Q0 B hb⟩))));simp only[Act.put,Ci,Cs,Cw];go_big_quiet_on)));refine Ds ?_;intro q K)
    go_wp2;go_ret;exact⟨Q2 (by rw[J.o];simp only[aK];rw[T.o,A6.o];rfl),Q0 H.o K⟩
theorem Qbq(w:Bh)(b o:Nat)(m:Qqp)(t a:Int)(h:At Qo w b o m)(it:Qqm t)(ia:Qqm a)(A2:Zh (mC m) (t,a)=Bn)(A3:Q7d (mC m))(A4:(mC m).length<=1500):
  Bq prog 174 #[.pointer (R ⟨b,o,N⟩),.agg #[I Z t,I Z a]] w λe w'=>∃t' a':Int,e=.returned (.tuple #[.agg #[I Z t',I Z a'],.bool (Jr (mC m) ((mC m).length+1) (t,a))])/\Bi w.heap.size w w':=by
 obtain⟨cs,f,⟨rt,ra⟩,xs⟩:=m;obtain⟨pc,cc,_,_,⟨V,-,-,-,-⟩,-,⟨hc,hm,A5⟩,-⟩:=h.mem;clear hm;have hm:cs.length<=1500:=A4;clear A4;have HC:=qh A5;have AA:D (Zh cs (t,a)=Bn):=qh (A2);have AB:D (Q7d cs):=qh (A3);have AC:=qh (And.intro it ia);have AD:=Ac w _ V;simp only at AD;clear A5 h A2 A3 it ia;go_enter func174,ntmps174;go_wp2_with fail
 obtain⟨H0,H1,hB⟩:=Qjo w (I Z t) (I Z a) (I Z 0) (I Z 0) 40;have A6:=qh H0;have A7:=qh H1;have A8:=qh hB;clear H0 H1 hB
 go_loopw [12] (λu wr=>∃(n j:Nat) (H B:Int),n+j=cs.length+1/\u=I Z j/\D (wr.heap[w.heap.size]?=R (.cells #[I Z H,I Z B] 40 (0,0)))/\D (wr.heap[w.heap.size+1]?=R (.cells #[I Z 0,I Z 0] 40 (0,0)))/\
  D (Zh cs (H,B)=Bn)/\D (Qqm H/\Qqm B)/\D (Jr cs (cs.length+1) (t,a)=Jr cs n (H,B))/\D (Bi w.heap.size w wr)) (λu _=>cs.length+1-(Bv u).toNat)
 case atStart=>exact⟨cs.length+1,0,t,a,rfl,rfl,A6.o,A7.o,AA.o,AC.o,rfl,A8.o⟩
 case round=>
  obtain⟨n,j,H,B,hn,rfl,J,G,HW,HI,c,K⟩:=hrel;have g:=qh hn;clear hn;clear A6 A7 A8;have L:=(Am K.o).cell _ _ V;have M:=Q8 J.o (o:=0) rfl;have x1:=Q8 J.o (o:=1) rfl;have O:=Q8 G.o (o:=0) rfl;have P:=Q8 G.o (o:=1) rfl;have S:∀q,wr.frozen? ⟨w.heap.size,q,N⟩=Bm:=λq=>Q0f.free (T:=40) ⟨_,J.o⟩ q;have U:∀q,wr.frozen? ⟨w.heap.size+1,q,N⟩=Bm:=λq=>Q0f.free (T:=40) ⟨_,G.o⟩ q;cases n with
  |zero=>
   have AE:decide ((j:Int)<(cs.length:Int)+1)=Bm:=by simp;have:=g.o;omega
   go_wp2_with fail
   refine Ca (v:=.tuple #[.agg #[I Z 0,I Z 0],.bool Bm]) (by simp[results,results174,go_sem,Q8 (Qh0 G.o (I Z 0) (I Z 0)) (o:=0) rfl,Q8 (Qh0 G.o (I Z 0) (I Z 0)) (o:=1) rfl]) rfl ?_;exact⟨0,0,by show _=Dj (.tuple #[_,.bool (Jr cs (cs.length+1) (t,a))]);rw[c.o];rfl,(K.o.setCell (by simp) _).setCell (by simp) _⟩
  |succ n=>
   have AE:decide ((j:Int)<(cs.length:Int)+1)=Bn:=by simp;have:=g.o;omega
   have AN:j<=cs.length:=by have:=g.o;omega
   by_cases ht:H=2;rotate_left
   ·obtain rfl:H=1:=by have:=HW.o;simp only[Zh,Bl,Bool.or_eq_true,beq_iff_eq]at this;omega
    have p:((1:Int) !=2)=Bn:=by decide
    clear ht;have W:D (Jr cs (n+1) (1,B)=Bn):=qh (by simp only[Jr,p,Bool.true_or,if_true]);go_wp2_with fail
    go_quiet(fail)
    have E:D ((wr.drewN nq).heap[w.heap.size]?=R (.cells #[I Z 1,I Z B] 40 (0,0))):=qh (J.o);have C:D ((wr.drewN nq).heap[w.heap.size+1]?=R (.cells #[I Z 0,I Z 0] 40 (0,0))):=qh (G.o);have F:D (Bi w.heap.size w (wr.drewN nq)):=qh (Q6 K.o _);generalize wr.drewN nq=w1 at *
    clear M x1 O P S U L;have L:=(Am F.o).cell _ _ V;have M:=Q8 E.o (o:=0) rfl;have x1:=Q8 E.o (o:=1) rfl;have O:=Q8 C.o (o:=0) rfl;have P:=Q8 C.o (o:=1) rfl;have S:∀q,w1.frozen? ⟨w.heap.size,q,N⟩=Bm:=λq=>Q0f.free (T:=40) ⟨_,E.o⟩ q;have U:∀q,w1.frozen? ⟨w.heap.size+1,q,N⟩=Bm:=λq=>Q0f.free (T:=40) ⟨_,C.o⟩ q;go_wp2_with fail
    refine Ca (v:=.tuple #[.agg #[I Z 1,I Z B],.bool Bn]) (by simp[results,results174,go_sem,Q8 (Qh0 C.o (I Z 1) (I Z B)) (o:=0) rfl,Q8 (Qh0 C.o (I Z 1) (I Z B)) (o:=1) rfl]) rfl ?_;exact⟨1,B,by show _=Dj (.tuple #[_,.bool (Jr cs (cs.length+1) (t,a))]);rw[c.o,W.o],(F.o.setCell (by simp) _).setCell (by simp) _⟩
   subst ht;have p:((2:Int) !=2)=Bm:=by decide
   have A9:=HW.o;simp only[Zh,Bl,Ql]at A9;obtain⟨⟨g1,g2⟩,-⟩:=A9;have r:B.toNat<cs.length:=by omega
   have g3:B<cs.length:=by omega
   obtain⟨b1,o1,rfl,s⟩:=Rd.elem HC.o B.toNat r;generalize hx:cs[B.toNat]=x at s;have AF:D (x∈cs):=qh (by rw[<-hx];exact As r);obtain⟨k,l,v,d,ws⟩:=x;have z:D (Q7 cs B=(k,l,v,d,ws)):=qh (by unfold Q7;rw[Qx r,hx]);clear hx;obtain⟨_,_,pw,cw,⟨-,-,-,-,e4⟩,-,-,⟨v1,v2,hw⟩⟩:=s.agent;simp only[Ty.sz,Bj]at e4;unfold maxLen at v2;have AG:=(Am K.o).cell _ _ e4;have AH:=qh hw;clear s hw;by_cases i:ws.length=0
   ·have AI:((ws.length:Int)==0)=Bn:=by simp[i]
    have W:D (Jr cs (n+1) (2,B)=Bn):=qh (by
     have:((aW (Q7 cs B)).length==0)=Bn:=by rw[z.o];simp[aW,i]
     simp only[Jr,this,Bool.or_true,if_true])
    go_wp2_with fail
    go_quiet(fail)
    have E:D ((wr.drewN nq).heap[w.heap.size]?=R (.cells #[I Z 2,I Z B] 40 (0,0))):=qh (J.o);have C:D ((wr.drewN nq).heap[w.heap.size+1]?=R (.cells #[I Z 0,I Z 0] 40 (0,0))):=qh (G.o);have F:D (Bi w.heap.size w (wr.drewN nq)):=qh (Q6 K.o _);generalize wr.drewN nq=w1 at *
    clear M x1 O P S U L;have L:=(Am F.o).cell _ _ V;have M:=Q8 E.o (o:=0) rfl;have x1:=Q8 E.o (o:=1) rfl;have O:=Q8 C.o (o:=0) rfl;have P:=Q8 C.o (o:=1) rfl;have S:∀q,w1.frozen? ⟨w.heap.size,q,N⟩=Bm:=λq=>Q0f.free (T:=40) ⟨_,E.o⟩ q;have U:∀q,w1.frozen? ⟨w.heap.size+1,q,N⟩=Bm:=λq=>Q0f.free (T:=40) ⟨_,C.o⟩ q;go_wp2_with fail
    refine Ca (v:=.tuple #[.agg #[I Z 2,I Z B],.bool Bn]) (by simp[results,results174,go_sem,Q8 (Qh0 C.o (I Z 2) (I Z B)) (o:=0) rfl,Q8 (Qh0 C.o (I Z 2) (I Z B)) (o:=1) rfl]) rfl ?_;exact⟨2,B,by show _=Dj (.tuple #[_,.bool (Jr cs (cs.length+1) (t,a))]);rw[c.o,W.o],(F.o.setCell (by simp) _).setCell (by simp) _⟩
   ·have AI:((ws.length:Int)==0)=Bm:=by simp[i]
    have A0:0<ws.length:=by omega
    obtain⟨b2,o2,rfl,A1⟩:=Rd.elem AH.o 0 A0;generalize hy:ws[0]=y at A1;obtain⟨X,Y⟩:=y;obtain⟨y0,y1,AJ,AK⟩:=A1.word;simp only[Nat.zero_mul,Nat.add_zero]at y0 y1;have HY:D (ws.getD 0 (0,0)=(X,Y)):=qh (by rw[Ab,Ad A0,hy];rfl);have AL:D ((X,Y)∈ws):=qh (by rw[<-hy];exact As A0);have AM:=qh (And.intro AJ AK);have W:D (Jr cs (n+1) (2,B)=Jr cs n (X,Y)):=qh (by
     have h1:((aW (Q7 cs B)).length==0)=Bm:=by rw[z.o];simp only[aW,beq_eq_false_iff_ne];exact i
     have h2:(aW (Q7 cs B)).getD 0 (0,0)=(X,Y):=by rw[z.o];exact HY.o
     simp only[Jr,p,h1,Bool.or_self,Bool.false_eq_true,if_false,h2])
    clear A1 hy;go_wp2_with fail
    go_quiet(fail)
    have E:D ((wr.drewN nq).heap[w.heap.size]?=R (.cells #[I Z 2,I Z B] 40 (0,0))):=qh (J.o);have C:D ((wr.drewN nq).heap[w.heap.size+1]?=R (.cells #[I Z 0,I Z 0] 40 (0,0))):=qh (G.o);have F:D (Bi w.heap.size w (wr.drewN nq)):=qh (Q6 K.o _);generalize wr.drewN nq=w1 at *
    clear M x1 O P S U L;have L:=(Am F.o).cell _ _ V;have M:=Q8 E.o (o:=0) rfl;have x1:=Q8 E.o (o:=1) rfl;have O:=Q8 C.o (o:=0) rfl;have P:=Q8 C.o (o:=1) rfl;have S:∀q,w1.frozen? ⟨w.heap.size,q,N⟩=Bm:=λq=>Q0f.free (T:=40) ⟨_,E.o⟩ q;have U:∀q,w1.frozen? ⟨w.heap.size+1,q,N⟩=Bm:=λq=>Q0f.free (T:=40) ⟨_,C.o⟩ q;have AG:=(Am F.o).cell _ _ e4;have AO:=(Am F.o).cell _ _ y0;have AP:=(Am F.o).cell _ _ y1;go_wp2_with fail
    go_still_tail 11,(by kernel_rfl)
    go_wp2_with fail
    go_roundw;case rel=>exact⟨n,j+1,X,Y,by have:=g.o;omega,by go_num,Qh0 E.o _ _,Qp5 C.o (by omega) _ _,AB.o _ AF.o _ AL.o,AM.o,(show _=_ by rw[c.o,W.o]),(show Bi w.heap.size w _ from((F.o.setCell (by simp) _).setCell (by simp) _).drew)⟩
    case measure=>simp[Bv];omega
theorem Qeu(w:Bh)(b o:Nat)(m:Qqp)(h:At Qo w b o m):
  Bq prog 172 #[.pointer (R ⟨b,o,N⟩)] w λe w'=>e=.returned (.bool (Zg (mC m) (Z3 (mC m)) (mF m)))/\Bi w.heap.size w w':=by
 obtain⟨cs,f,⟨rt,ra⟩,xs⟩:=m;obtain⟨pc,cc,_,_,⟨X,c1,-,-,-⟩,⟨i1,-,-⟩,⟨hc,hm,A1⟩,-⟩:=h.mem;unfold maxLen at hm;have HC:=qh A1;have A6:=qh i1;have A7:=Ac w _ X;simp only at A7;clear A1 h i1;go_enter func172,ntmps172;go_wp2_with fail
 go_loopw [3,12] (λu i wr=>∃(j:Nat),j<=cs.length/\i=I Z j/\u=I Z ((cs.take j).countP λc=>aK c==0:Nat)/\D (Bi w.heap.size w wr)) (λ_ i _=>cs.length-(Bv i).toNat);case atStart=>exact⟨0,Ak _,rfl,by simp,Ai _ _⟩
 case round=>
  obtain⟨j,hj,rfl,rfl,B⟩:=hrel;have H:=(Am B.o).cell _ _ X;have A2:=(Am B.o).cell _ _ c1;by_cases A3:j<cs.length
  ·obtain⟨b1,o1,rfl,F⟩:=Rd.elem (HC.o.kept (Am B.o)) j A3
   generalize hx:cs[j]=x at F;obtain⟨k,l,v,d,ws⟩:=x;have V:=qh hx;clear hx;obtain⟨L,M,O,P,⟨W,Y,S,T,U⟩,-,-,-⟩:=F.agent;have a:=qh (F.rdv T U);simp only[Ty.sz,Bj]at W Y S T U;have r:=Dc (p:=λc=>aK c==0) (l:=cs.take j);rw[List.length_take]at r;have HS:=qh (Q29 (p:=λc:Qb=>aK c==0) A3);have A8:=Ac wr _ W;simp only at A8;clear F X c1 H A2;generalize hcn:(cs.take j).countP (λc=>aK c==0)=cn at *
   go_upto_region 5 with fail
   refine Qq ?_;intro W1 s;have t:D (Bi wr.heap.size wr W1):=qh (by rw[s];go_grown);obtain⟨g0,g1,g2,g3,g4⟩:=Q0n wr (I Z k) (I Z l) (I Z v) (A L d.length M) (A O ws.length P) 134;rw[<-s]at g0 g1 g2 g3 g4;clear s W Y S T U;have A4:=qh (a.o.kept (Am t.o));by_cases E:k=0
   ·have G:D ((k==0)=Bn):=qh (by simp[E])
    have y:D ((cs.take (j+1)).countP (λc=>aK c==0)=cn+1):=qh (by rw[HS.o,V.o];simp[aK,E]);clear E;go_wp2_with(first|((go_at_call 202;(with_reducible refine(Vl _ [I Z k,I Z l,I Z v,A L d.length M,A O ws.length P] _ A4.o).mono ?_);rintro e w2 ⟨rfl,C⟩;have J:=qh (Q0 t.o C);clear C;simp only[aK];rw[G.o]))|((go_at_call 109;(with_reducible refine(Q2g _ Bn).mono ?_);rintro e w3 ⟨rfl,rfl⟩;rw[show Q23 Bn=1 from rfl]))|fail)
    go_roundw;case rel=>exact⟨j+1,by omega,by go_num,by rw[y.o];go_num,Q0 B.o J.o⟩
    case measure=>simp[Bv];omega
   ·have G:D ((k==0)=Bm):=qh (by simp[E])
    have y:D ((cs.take (j+1)).countP (λc=>aK c==0)=cn+0):=qh (by rw[HS.o,V.o];simp[aK,E]);clear E;go_wp2_with(first|((go_at_call 202;(with_reducible refine(Vl _ [I Z k,I Z l,I Z v,A L d.length M,A O ws.length P] _ A4.o).mono ?_);rintro e w2 ⟨rfl,C⟩;have J:=qh (Q0 t.o C);clear C;simp only[aK];rw[G.o]))|((go_at_call 109;(with_reducible refine(Q2g _ Bm).mono ?_);rintro e w3 ⟨rfl,rfl⟩;rw[show Q23 Bm=0 from rfl]))|fail)
    go_roundw;case rel=>exact⟨j+1,by omega,by go_num,by rw[y.o];go_num,Q0 B.o J.o⟩
    case measure=>simp[Bv];omega
  ·have r:cs.length<=j:=by omega
   have HN:D ((cs.take j).countP (λc=>aK c==0)=Z3 cs):=qh (by rw[Ao r];rfl);rw[HN.o];have AC:Z3 cs<=cs.length:=Dc;rename Bh=>wo
   have A9:=B;go_wp2_with fail
   go_loopw [6,27] (λu i wr=>∃(n j:Nat) (q:Int),n+j=Z3 cs/\i=I Z j/\u=I Z q/\Qqm q/\D (Zg cs (Z3 cs) f=Zg cs n q)/\D (Bi w.heap.size w wr)) (λ_ i _=>Z3 cs-(Bv i).toNat);case atStart=>exact⟨_,0,_,rfl,rfl,rfl,A6.o,rfl,A9.o⟩
   case round=>
    obtain⟨n,i,q,hn,rfl,rfl,iq,g,B⟩:=hrel;have AD:=iq.bd;have z:=qh hn;clear hn H A2;have H:=(Am B.o).cell _ _ X;cases n with
    |zero=>
     have AA:decide ((i:Int)<(Z3 cs:Int))=Bm:=by simp;have:=z.o;omega
     have AB:¬(i:Int)<(Z3 cs:Int):=by simpa using AA
     go_wp2_with fail
     go_ret;exact⟨Q2 (by show _=Zg cs (Z3 cs) f;rw[g.o];rfl),B.o⟩
    |succ n=>
     have AB:(i:Int)<(Z3 cs:Int):=by have:=z.o;omega
     cases hin:Qqz q 0 ((cs.length:Int)-1)with
     |false=>
      have K:=qh hin;go_wp2_with(go_at_call 204;(with_reducible refine(Vf _ _ _ _ _ _ q H).mono ?_);rintro e w' ⟨rfl,rfl⟩;rw[K.o])
      go_ret;exact⟨Q2 (by show _=Zg cs (Z3 cs) f;rw[g.o];simp only[Zg,K.o,Cn]),B.o⟩
     |true=>
      have hq:=Ql.1 hin;have K:=qh hin;have A5:q.toNat<cs.length:=by omega
      obtain⟨b1,o1,rfl,F⟩:=Rd.elem (HC.o.kept (Am B.o)) q.toNat A5;generalize hx:cs[q.toNat]=x at F;obtain⟨k,l,v,d,ws⟩:=x;have V:D (Q7 cs q=(k,l,v,d,ws)):=qh (by unfold Q7;rw[Qx A5,hx]);clear hx;obtain⟨L,M,O,P,⟨W,Y,S,T,U⟩,⟨-,-,iv⟩,-,-⟩:=F.agent;have a:=qh (F.rdv T U);simp only[Ty.sz,Bj]at W Y S T U;have HV:=qh iv;clear F iv;have AE:(0:Int)<=q:=hq.1;have AF:q<(cs.length:Int):=by omega
      clear hin hq;by_cases E:k=0
      ·have G:D ((k==0)=Bn):=qh (by simp[E])
       have A0:D (Zg cs (n+1) q=Zg cs n v):=qh (by simp only[Zg,K.o,V.o,aK,aV,G.o,Dl]);clear E;go_wp2_with(first|((go_at_call 204;(with_reducible refine(Vf _ _ _ _ _ _ q H).mono ?_);rintro e w' ⟨rfl,rfl⟩;rw[K.o]))|((go_at_call 202;(with_reducible refine(Vl _ [I Z k,I Z l,I Z v,A L d.length M,A O ws.length P] _ a.o).mono ?_);rintro e w2 ⟨rfl,C⟩;have J:=qh (Q0 B.o C);have H:=(Am C).cell _ _ H;have S:=(Am C).cell _ _ S;clear C;simp only[aK];rw[G.o]))|fail)
       go_roundw;case rel=>exact⟨n,i+1,v,by have:=z.o;omega,by go_num,rfl,HV.o,(show _=_ by rw[g.o,A0.o]),J.o⟩
       case measure=>simp[Bv];omega
      ·have G:D ((k==0)=Bm):=qh (by simp[E])
       have A0:D (Zg cs (n+1) q=Bm):=qh (by simp only[Zg,K.o,V.o,aK,G.o,Dl,Cn]);clear E;go_wp2_with(first|((go_at_call 204;(with_reducible refine(Vf _ _ _ _ _ _ q H).mono ?_);rintro e w' ⟨rfl,rfl⟩;rw[K.o]))|((go_at_call 202;(with_reducible refine(Vl _ [I Z k,I Z l,I Z v,A L d.length M,A O ws.length P] _ a.o).mono ?_);rintro e w2 ⟨rfl,C⟩;have J:=qh (Q0 B.o C);clear C;simp only[aK];rw[G.o]))|fail)
       go_ret;exact⟨Q2 (by show _=Zg cs (Z3 cs) f;rw[g.o,A0.o]),J.o⟩
end Go.Proofs.YthbpkpnioaniiaaGreat
